/- a part of the proof -/
import Derived.Test.YtkfdniccmcolgaaGreatQbk
import Derived.Test.YtkfdniccmcolgaaGreatQbl
import Derived.Test.YtkfdniccmcolgaaGreatQbf
import Derived.Test.YtkfdniccmcolgaaGreatQau
set_option linter.all false
set_option maxHeartbeats 4000000
set_option maxRecDepth 10000
namespace Go.Va
open Go.Proofs
theorem JZ{g:Grd}: ∀{l:List Grd},g∈AV l↔g∈l
 |[]=>by simp[AV]
 |[a]=>by simp[AV]
 |a::b::l=>by
  have ih:=JZ (g:=g) (l:=b::l);rw[AV];split
  ·rename_i e
   subst e;rw[ih];simp
  ·rw[jzn,ih]
   simp only[jzn]
theorem Iq{g:Grd}{l:List Grd}:g∈BV l↔g∈l:=by
 unfold BV;rw[JZ,sortG_mem]
def E9(r:Rul):Bool:=r.prem.all (fun p=>OW p&&decide (CA p.letters=arity p.kind))&&
 r.guards.all (fun p=>(decide (p.kind=1)&&decide (CA p.letters=2)||decide (p.kind=2)&&decide (CA p.letters=3))&&p.letters.all fun x=>r.prem.any fun q=>q.letters.contains x)&&
 r.concl.all (fun p=>decide (p.kind≠9)||decide (0≤p.n))
theorem WM: ∀n:Fin 29,E9 (AJ n)=true:=by decide+kernel
theorem PY(n:Nat):E9 (AJ n)=true:=by
 by_cases h:n<29
 ·exact WM ⟨n,h⟩
 ·have e:AJ n= .zero:=by
   unfold AJ;split<;>first|omega|rfl
  rw[e]
  rfl
theorem KP{n:Int}{c:Bnd}(hc: ∀x∈c.v,0≤x∧x≤n)(h0:0≤n)(k:Nat):0≤c.v.getD k 0∧c.v.getD k 0≤n:=by
 rw[Ar]
 by_cases h:k<c.v.length
 ·rw[Ai h]
  exact hc _ (Ak h)
 ·rw[BG (by omega)]
  exact⟨Int.le_refl 0,h0⟩
theorem IN{n:Int}{c:Bnd}(hc: ∀x∈c.v,0≤x∧x≤n)(h0:0≤n)(l:List UInt8): ∀a∈Bi c l,a<n:=by
 intro a ha;unfold Bi at ha;rw[List.mem_flatMap]at ha;obtain⟨x,hx,ha⟩:=ha;have h:=KP hc h0;unfold C4 Bnd.S1 Bnd.S2 Bnd.P at ha;split at ha
 ·simp only[jzn,AM,or_false]at ha;have h1:=h (26+(x.toNat - 97)*2);have h2:=h (26+(x.toNat - 97)*2+1);omega
 ·simp only[jzn,AM,or_false]at ha;have h1:=h (x.toNat - 65);omega
theorem Tw{n:Int}{c:Bnd}(hc: ∀x∈c.v,0≤x∧x≤n)(h0:0≤n){l:List UInt8}(hl: ∀x∈l,c.has x): ∀a∈Bi c l,0≤a:=by
 intro a ha;unfold Bi at ha;rw[List.mem_flatMap]at ha;obtain⟨x,hx,ha⟩:=ha;have h:=KP hc h0;have hh:=hl x hx;unfold Bnd.has at hh;unfold C4 at ha;unfold Bnd.S1 Bnd.S2 Bnd.P at*;split at ha
 ·rename_i e
  rw[if_pos e]at hh
  simp only[jzn,AM,or_false]at ha;have h1:=h (26+(x.toNat - 97)*2);have h2:=h (26+(x.toNat - 97)*2+1);omega
 ·rename_i e
  rw[if_neg e]at hh
  simp only[jzn,AM,or_false]at ha;have h1:=h (x.toNat - 65);omega
structure Sat (W:Int→Pq) (n:Int) (f:Fct):Prop where
 ar:arity f.kind≠0
 ln:f.args.length=arity f.kind
 ag: ∀a∈f.args,0≤a∧a<n
 vn:AB W f.kind (Be f) f.args
def Met(W:Int→Pq)(c:Bnd)(p:Pat):Prop:=(∀x∈p.letters,c.has x)∧AB W p.kind 0 (Bi c p.letters)
theorem Met.le{W:Int→Pq}{n:Int}{b c:Bnd}{p:Pat}(h:Met W b p)(hl:b.Le n c):Met W c p:=⟨fun x hx=>DG hl (h.1 x hx),by rw[HC hl h.1];exact h.2⟩
theorem It{n:Int}{W:Int→Pq}{r:Rul}(hfit: ∀p∈r.prem,p.Fit∧CA p.letters=arity p.kind){nl:List Fct}(hn: ∀f∈nl,Sat W n f)(hlen:nl.length=r.prem.length):
  ∀(k i:Nat) (b:Bnd),i+k=nl.length→(∀j (h:j<r.prem.length),j<i→Met W b r.prem[j])→(∀x∈b.v,0≤x∧x≤n)→ ∀x∈DY (Cj r) (Co r nl) k i b,∃c:Bnd,(∀x∈c.v,0≤x∧x≤n)∧(∀p∈r.prem,Met W c p)∧x∈Cj r c
 |0,i,b,hi,hm,hb,x,hx=>⟨b,hb,fun p hp=>by
   obtain⟨j,hj,rfl⟩:=List.mem_iff_getElem.1 hp
   exact hm j hj (by omega),hx⟩
 |k+1,i,b,hi,hm,hb,x,hx=>by
  simp only[DY,List.mem_flatMap]at hx;obtain⟨c,hc,hx⟩:=hx;have hi1:i<r.prem.length:=by omega
  have hi2:i<nl.length:=by omega
  unfold Co at hc;rw[Ai hi1,Ai hi2]at hc;simp only at hc;have hs:=hn _ (Ak hi2);have hf:=hfit _ (Ak hi1);obtain⟨g1,g2,g3⟩:=Xu hf.1 hf.2 hs.ar hs.ln hs.ag hs.vn b c hc;exact It hfit hn hlen k (i+1) c (by omega) (fun j hj h=>if e:j=i then by subst e;exact⟨g2,g3⟩ else (hm j hj (by omega)).le g1) (g1.v hb) x hx
structure Good (W:Int→Pq) (n:Int) (x:AR):Prop where
 lt: ∀a∈x.1.args,a<n
 gs: ∀g∈x.2,(g.kind=1∧g.args.length=2∨g.kind=2∧g.args.length=3)∧ ∀a∈g.args,0≤a∧a<n
 vn:(∀g∈x.2,BW W g.kind g.args)→AB W x.1.kind (Be x.1) x.1.args
theorem Xz{n:Int}(h0:0≤n){W:Int→Pq}{r:Rul}(hfit: ∀p∈r.prem,p.Fit)(ht:E9 r=true)(hr: ∀b,GL W r b)(hlv: ∀n,val (limbs n)=n){nl:List Fct}(hn: ∀f∈nl,Sat W n f)(hlen:nl.length=r.prem.length):
  ∀x∈saysP r nl,Good W n x:=by
 intro x hx;unfold E9 at ht;simp only[Ax,jzy,Bool.or_eq_true,decide_eq_true_eq,List.any_eq_true,List.contains_eq_mem]at ht;obtain⟨⟨t1,t2⟩,t3⟩:=ht;obtain⟨c,hc,hm,hx⟩:=It (n:=n) (fun p hp=>⟨hfit p hp,(t1 p hp).2⟩) hn hlen nl.length 0 Bnd.zero (by omega) (fun j _ h=>by omega) (fun x hx=>by
  unfold Bnd.zero at hx;simp only[List.mem_replicate]at hx;omega) x hx
 unfold Cj at hx;split at hx
 case isFalse=>cases hx
 rename_i hg
 rw[jzk]at hx
 obtain⟨p,hp,rfl⟩:=hx
 have hgl:guardsL c r.guards=BV (r.guards.map (GQ c)):=by
  unfold Gv at hg;unfold guardsL;rw[if_neg (by simpa using hg)]
 refine⟨IN hc h0 p.letters,?_,?_⟩
 ·intro g hg2;simp only[hgl,Iq,jzk]at hg2;obtain⟨q,hq,rfl⟩:=hg2;obtain⟨q1,q2⟩:=t2 q hq;have hl:=FG c q.letters;have hl2:(Bc c q).length=(Bi c q.letters).length:=(Ct _).length_eq;refine⟨?_,fun a ha=> ?_⟩
  ·unfold GQ;simp only;omega
  ·have ha2:a∈Bi c q.letters:=(Ct _).mem_iff.1 ha;refine⟨Tw hc h0 (fun x hx=> ?_) a ha2,IN hc h0 _ a ha2⟩
   obtain⟨q',h1,h2⟩:=q2 x hx
   exact(hm q' h1).1 x h2
 ·intro hgs;have:=hr c (fun q hq=>(hm q hq).2) (fun q hq=> ?_) p hp
  ·unfold D9 Be;simp only;by_cases h9:p.kind=9
   ·rw[if_pos h9]at this
    rw[if_pos h9,if_pos h9,hlv,hlv]
    have hn0:0≤p.n:=by
     rcases t3 p hp with h|h
     ·exact absurd h9 h
     ·exact h
    have e:mkRat (toZ false p.n.toNat) 1=(p.n:Rat):=by
     rw[Rat.mkRat_eq_div]
     unfold toZ;rw[if_neg (by decide),Int.toNat_of_nonneg hn0]
     grind
    rw[e]
    exact this
   ·rw[if_neg h9]at this
    rw[if_neg h9,if_neg h9]
    exact this
  ·have h1:=hgs (GQ c q) (by simp only[hgl,Iq,jzk];exact⟨q,hq,rfl⟩)
   exact Re (Ct _) h1
end Go.Va
namespace Go.Va
open Int (natCast_add natCast_mul natCast_emod natCast_ediv natCast_pow)
open Go.Proofs
def PH:List (List Nat):=(Aj [0,0,2,7,15,31,31,0,191,511])
@[simp]def Tv:List Seg:=[.any [] [4] [⟨0,[],[4],[4],[]⟩,⟨0,[1],[4],[4],[]⟩,⟨0,[20],[4],[4],[]⟩,⟨0,[19,21],[4],[4],[]⟩,⟨0,[22],[4],[4],[]⟩,⟨0,[18],[4],[4],[]⟩,⟨0,[18],[4],[4],[]⟩,⟨1,[],[],[],[]⟩,⟨2,[4,23],[],[],[4]⟩],.one]
def QL:List (List Nat):=(Aj [0,0,2,0,8,24,56,0,128,384,896,0,2048,6144,14336,0,32768,98304,229376,524280,0,2097150,4194302,8388607,16777215])
@[simp]def Se:List Seg:=[.any [] [46,49] [⟨0,[3],[49],[46,49],[]⟩,⟨0,[1],[],[46,49],[]⟩,⟨0,[28],[],[46,49],[]⟩,⟨0,[1],[],[46,49],[]⟩,⟨0,[30],[],[46,49],[]⟩,⟨0,[31],[],[46,49],[]⟩,⟨0,[32],[],[46,49],[]⟩,⟨0,[1],[],[46,49],[]⟩,⟨0,[34],[],[46,49],[]⟩,⟨0,[35],[],[46,49],[]⟩,⟨0,[36],[],[46,49],[]⟩,⟨0,[1],[],[46,49],[]⟩,⟨0,[38],[],[46,49],[]⟩,⟨0,[39],[],[46,49],[]⟩,⟨0,[40],[],[46,49],[]⟩,⟨0,[1],[],[46,49],[]⟩,⟨0,[42],[],[46,49],[]⟩,⟨0,[43],[],[46,49],[]⟩,⟨0,[44],[],[46,49],[]⟩,⟨4,[33,37,41,45],[],[49],[]⟩,⟨0,[4],[],[46,49],[]⟩,⟨0,[29,46,47],[],[49],[]⟩,⟨1,[48],[],[],[]⟩],.one,.one]
def rdR(f:Fct):List Fct:=
 if f.kind=4 then [⟨9,f.args,false,limbs 1,limbs 1⟩,⟨9,[f.args.getD 2 0,f.args.getD 3 0,f.args.getD 0 0,f.args.getD 1 0],false,limbs 1,limbs 1⟩]
 else if f.kind=9 then f::(if val f.abs=0 then [] else [⟨9,[f.args.getD 2 0,f.args.getD 3 0,f.args.getD 0 0,f.args.getD 1 0],f.neg,f.den,f.abs⟩])
 else []
theorem jfV(f:Fct)(h4:f.kind≠4)(h9:f.kind≠9):CallsF Tryz.prog 231 [.agg f.ds] (.u (.c (.own 5 0 []))):=by
 refine Ae (T:=tb) Ad mixed Tryz.func231 rfl (by decide) (Ac rfl) rfl ?_;unfold St.init
 obtain⟨kind,args,neg,abs,den⟩:=f
 simp only at h4 h9;simp -implicitDefEqProofs[jJ,-natCast_add,-natCast_mul,h4,h9]
theorem jdh(a b c d:Int)(neg:Bool)(m e:Nat)(hm:m<18446744073709551616)(he:e<18446744073709551616)(e0:e≠0)(hg:Nat.gcd m e=1):
  CallsF Tryz.prog 231 [.agg [.int .i64 9,intsD [a,b,c,d],.bool neg,Ab (limbs m),Ab (limbs e)]]
   (.u (.c (.own 5 (rdR ⟨9,[a,b,c,d],neg,limbs m,limbs e⟩).length ((rdR ⟨9,[a,b,c,d],neg,limbs m,limbs e⟩).flatMap Fct.ds)))):=by
 have k1:=IZ 1 (by omega)
 have k2:=Oh neg m e hm he e0 hg;have k3:=Am m;refine Ae (T:=tb) Ad mixed Tryz.func231 rfl (by decide) (Ac rfl) rfl ?_;unfold St.init
 simp -implicitDefEqProofs[jJ,-natCast_add,-natCast_mul];refine Af PH Tv (by rfl) ?_
 simp -implicitDefEqProofs[jJ,-natCast_add,-natCast_mul];refine Al k1 ?_;simp -implicitDefEqProofs[jJ,-natCast_add,-natCast_mul];refine Al k2 ?_;by_cases m0:m=0
 ·subst m0;simp -implicitDefEqProofs[jJ,-natCast_add,-natCast_mul];simp[rdR,k3]
 ·simp -implicitDefEqProofs[jJ,-natCast_add,-natCast_mul,m0];refine Af QL Se (by rfl) ?_
  simp -implicitDefEqProofs[jJ,-natCast_add,-natCast_mul];have eR:rdR ⟨9,[a,b,c,d],neg,limbs m,limbs e⟩=[⟨9,[a,b,c,d],neg,limbs m,limbs e⟩,⟨9,[c,d,a,b],neg,limbs e,limbs m⟩]:=by simp[rdR,k3,m0]
  rw[eR]
  exact⟨rfl,rfl,rfl⟩
theorem jfN(a b c d:Int)(neg:Bool)(x y:List Nat):
  CallsF Tryz.prog 231 [.agg [.int .i64 4,intsD [a,b,c,d],.bool neg,Ab x,Ab y]]
   (.u (.c (.own 5 (rdR ⟨4,[a,b,c,d],neg,x,y⟩).length ((rdR ⟨4,[a,b,c,d],neg,x,y⟩).flatMap Fct.ds)))):=by
 have k1:=IZ 1 (by omega)
 have k2:=Oh false 1 1 (by omega) (by omega) (by omega) (by rfl)
 refine Ae (T:=tb) Ad mixed Tryz.func231 rfl (by decide) (Ac rfl) rfl ?_;unfold St.init
 simp -implicitDefEqProofs[jJ,-natCast_add,-natCast_mul];refine Af (Aj [0,1,0,7,15]) [.any [] [] (Ao [[1],[9],[]]),.one,.one] (by rfl) ?_
 simp -implicitDefEqProofs[jJ,-natCast_add,-natCast_mul];refine Al k1 ?_;simp -implicitDefEqProofs[jJ,-natCast_add,-natCast_mul];refine Af PH Tv (by rfl) ?_
 simp -implicitDefEqProofs[jJ,-natCast_add,-natCast_mul];refine Al k1 ?_;simp -implicitDefEqProofs[jJ,-natCast_add,-natCast_mul];refine Al k2 ?_;simp -implicitDefEqProofs[jJ,-natCast_add,-natCast_mul];refine Af QL Se (by rfl) ?_
 simp -implicitDefEqProofs[jJ,-natCast_add,-natCast_mul];have eR:rdR ⟨4,[a,b,c,d],neg,x,y⟩=[⟨9,[a,b,c,d],false,limbs 1,limbs 1⟩,⟨9,[c,d,a,b],false,limbs 1,limbs 1⟩]:=by simp[rdR]
 rw[eR]
 exact⟨rfl,rfl,rfl⟩
structure Fct.Rto (f:Fct):Prop where
 kind:f.kind=9
 args: ∃a b c d,f.args=[a,b,c,d]
 mild:f.Mild
 den:val f.den≠0
theorem FA(f:Fct)(h:f.Rt):CallsF Tryz.prog 231 [.agg f.ds] (.u (.c (.own 5 (rdR f).length ((rdR f).flatMap Fct.ds))))∧(∀g∈rdR f,g.Rto)∧(rdR f).length≤2:=by
 obtain⟨p1,p2,p3,p4⟩:=h.parts
 have hm:=h.mild;obtain⟨k,args,neg,abs,den⟩:=f;simp only at p1 p2 p3 p4;by_cases h9:k=9
 ·subst h9;rw[if_pos rfl]at p4;obtain⟨e1,e2,e3,e4,e5⟩:=C7 p4 hm.oa hm.od;obtain⟨a,b,c,d,rfl⟩: ∃a b c d,args=[a,b,c,d]:=by
   match args,p2 with
   |[a,b,c,d],_=>exact⟨a,b,c,d,rfl⟩
  have b1:=Ec hm.oa (by have:=hm.la;simp only at this ⊢;omega)
  have b2:=Ec hm.od (by have:=hm.ld;simp only at this ⊢;omega)
  simp only at e1 e2 b1 b2;have k:=jdh a b c d neg (val abs) (val den) b1 b2 e3 e4;rw[←e1,←e2]at k;refine⟨k,?_,?_⟩
  ·intro g hg;by_cases h0:val abs=0
   ·have:g=⟨9,[a,b,c,d],neg,abs,den⟩:=by simpa [rdR,h0]using hg
    subst this;exact⟨rfl,⟨a,b,c,d,rfl⟩,hm,e3⟩
   ·have:g=⟨9,[a,b,c,d],neg,abs,den⟩∨g=⟨9,[c,d,a,b],neg,den,abs⟩:=by simpa [rdR,h0]using hg
    rcases this with rfl|rfl
    ·exact⟨rfl,⟨a,b,c,d,rfl⟩,hm,e3⟩
    ·exact⟨rfl,⟨c,d,a,b,rfl⟩,⟨hm.ld,hm.la,hm.od,hm.oa,by simp⟩,h0⟩
  ·by_cases h0:val abs=0<;>simp[rdR,h0]
 ·by_cases h4:k=4
  ·subst h4;obtain⟨a,b,c,d,rfl⟩: ∃a b c d,args=[a,b,c,d]:=by
    match args,p2 with
    |[a,b,c,d],_=>exact⟨a,b,c,d,rfl⟩
   refine⟨jfN a b c d neg abs den,?_,?_⟩
   ·intro g hg;have:g=⟨9,[a,b,c,d],false,limbs 1,limbs 1⟩∨g=⟨9,[c,d,a,b],false,limbs 1,limbs 1⟩:=by simpa [rdR]using hg
    have hl1:(limbs 1).length≤4:=by decide
    rcases this with rfl|rfl
    ·exact⟨rfl,⟨a,b,c,d,rfl⟩,⟨hl1,hl1,Ap _,Ap _,by simp⟩,by rw[Am];omega⟩
    ·exact⟨rfl,⟨c,d,a,b,rfl⟩,⟨hl1,hl1,Ap _,Ap _,by simp⟩,by rw[Am];omega⟩
   ·simp[rdR]
  ·have e:rdR ⟨k,args,neg,abs,den⟩=[]:=by simp[rdR,h9,h4]
   rw[e]
   exact⟨jfV ⟨k,args,neg,abs,den⟩ h4 h9,by simp,by simp⟩
def Ek(f g:Fct):Fct:=
 let m:=val f.abs*val g.abs
 let d:=val f.den*val g.den
 ⟨9,[f.args.getD 0 0,f.args.getD 1 0,g.args.getD 2 0,g.args.getD 3 0],sg (!decide (f.neg=g.neg)) m,limbs (m/Nat.gcd m d),limbs (d/Nat.gcd m d)⟩
def Fx(f g:Fct):Bool:=decide (Ah (f.args.getD 2 0) (f.args.getD 3 0)=Ah (g.args.getD 0 0) (g.args.getD 1 0))
def Fd(f:Fct)(R:List Fct)(j:Nat):List Fct:=(R.drop j).flatMap fun g=>if Fx f g then [Ek f g] else []
def Es(F R:List Fct)(i:Nat):List Fct:=(F.drop i).flatMap fun f=>Fd f R 0
def Di(f:Fct):List A:=[.agg f.ds]
def F3(f:Fct)(R:List Fct)(j:Nat):List (List A):=(Fd f R j).map Di
def F7(F R:List Fct)(i:Nat):List (List A):=(Es F R i).map Di
theorem jdn{f:Fct}{R:List Fct}{j:Nat}(h:j<R.length):F3 f R j=(if Fx f R[j] then [Di (Ek f R[j])] else [])++F3 f R (j+1):=by
 unfold F3 Fd;rw[AD h,List.flatMap_cons,List.map_append];split<;>rfl
theorem jeB(f:Fct)(R:List Fct):F3 f R R.length=[]:=by simp[F3,Fd]
theorem jeJ{F R:List Fct}{i:Nat}(h:i<F.length):F7 F R i=F3 F[i] R 0++F7 F R (i+1):=by
 unfold F7 Es F3;rw[AD h,List.flatMap_cons,List.map_append]
theorem jhV(F R:List Fct):F7 F R F.length=[]:=by simp[F7,Es]
theorem jcu(x:Value)(p q:Fct)(hp:p.Rt)(hq:q.Rt):
  Bp Tryz.prog x 142 [.c (AE [p,q]),.c (.lit x)] (F7 (rdR p) (rdR q) 0):=by
 obtain⟨kp,fp,lp⟩:=FA p hp
 obtain⟨kq,fq,lq⟩:=FA q hq
 generalize rdR p=F at*;generalize rdR q=R at*;refine Cz (T:=tb) Ad mixed Tryz.func142 rfl (by decide) (Ac rfl) rfl rfl ?_;intro rest;unfold St.initY
 simp only[AE,List.flatMap_cons,List.flatMap_nil,List.append_nil,Fct.ds,List.cons_append,List.nil_append,List.length_cons,List.length_nil]at kp kq ⊢;simp -implicitDefEqProofs[jJ,-natCast_add,-natCast_mul,-natCast_emod,-natCast_ediv,-natCast_pow,-List.reduceReplicate];refine Aa kp ?_;simp -implicitDefEqProofs[jJ,-natCast_add,-natCast_mul,-natCast_emod,-natCast_ediv,-natCast_pow,-List.reduceReplicate];refine Av (fun i:Nat=>⟨[(1000000,.tr x (F7 F R i++rest)),(13,vI .i64 i),(12,vI .i64 F.length),(11,vC (.sl 11 0 F.length)),(0,vC (.d (.slice 2 [.int .i64 p.kind,intsD p.args,.bool p.neg,Ab p.abs,Ab p.den,.int .i64 q.kind,intsD q.args,.bool q.neg,Ab q.abs,Ab q.den]))),(1,vC (.d (.lit x)))],
  [(11,.row 5 (F.flatMap Fct.ds) true)]⟩) (fun i=>i≤F.length) (fun i=>F.length - i) 0 (by simp[An,lk,St.le,vI,vC]) (by omega) ?_
 rintro i hi
 by_cases h:i<F.length
 ·obtain⟨f9,⟨a,b,c,d,fa⟩,fm,fd⟩:=fp F[i] (Ak h)
  have e:=jeJ (R:=R) h;rw[e];have e2:=Mk F i h;simp -implicitDefEqProofs[jJ,-natCast_add,-natCast_mul,-natCast_emod,-natCast_ediv,-natCast_pow,-List.reduceReplicate,h,e2];refine⟨by omega,?_⟩
  refine Aa kq ?_;simp -implicitDefEqProofs[jJ,-natCast_add,-natCast_mul,-natCast_emod,-natCast_ediv,-natCast_pow,-List.reduceReplicate];refine Av (fun j:Nat=>⟨[(1000000,.tr x (F3 F[i] R j++(F7 F R (i+1)++rest))),(22,vI .i64 j),(21,vI .i64 R.length),(20,vC (.sl 20 0 R.length)),(13,vI .i64 i),(12,vI .i64 F.length),(11,vC (.sl 11 0 F.length)),(5,vC (.ptr 5 0)),(0,vC (.d (.slice 2 [.int .i64 p.kind,intsD p.args,.bool p.neg,Ab p.abs,Ab p.den,.int .i64 q.kind,intsD q.args,.bool q.neg,Ab q.abs,Ab q.den]))),(1,vC (.d (.lit x)))],
   [(20,.row 5 (R.flatMap Fct.ds) true),(11,.row 5 (F.flatMap Fct.ds) true),(5,.box [.d (.int .i64 F[i].kind),.d (intsD F[i].args),.d (.bool F[i].neg),.d (Ab F[i].abs),.d (Ab F[i].den)])]⟩) (fun j=>j≤R.length) (fun j=>R.length - j) 0 (by simp[An,lk,St.le,vI,vC]) (by omega) ?_
  rintro j hj
  by_cases h2:j<R.length
  ·obtain⟨g9,⟨a',b',c',d',ga⟩,gm,gd⟩:=fq R[j] (Ak h2)
   have e3:=Mk R j h2;have e4:=jdn (f:=F[i]) h2;rw[e4];have s1:=Ii c d;have s2:=Ii a' b';simp -implicitDefEqProofs[jJ,-natCast_add,-natCast_mul,-natCast_emod,-natCast_ediv,-natCast_pow,-List.reduceReplicate,h2,e3,fa,ga];refine⟨by omega,?_⟩
   refine Af (Aj [0,1,3,7,0,16,48,112,255,0,512,1536,3584,0,8192,24576,57344,131071,262143]) [.any [] [] (Ao [[5],[26],[27],[28],[5],[30],[31],[32],[29,33],[7],[35],[36],[37],[7],[39],[40],[41]]),.one,.one] (by rfl) ?_
   simp -implicitDefEqProofs[jJ,-natCast_add,-natCast_mul,-natCast_emod,-natCast_ediv,-natCast_pow,-List.reduceReplicate,i64];refine Al s1 ?_;simp -implicitDefEqProofs[jJ,-natCast_add,-natCast_mul,-natCast_emod,-natCast_ediv,-natCast_pow,-List.reduceReplicate,i64];refine Aa s2 ?_;have hjn:Fx F[i] R[j]=(decide (lo c d=lo a' b')&&decide (Va.hi c d=Va.hi a' b')):=by
    unfold Fx Ah;rw[fa,ga];simp
   have km:=Xx F[i].neg R[j].neg F[i].abs F[i].den R[j].abs R[j].den fm.oa (by have:=fm.la;omega) fm.od (by have:=fm.ld;omega) gm.oa (by have:=gm.la;omega) gm.od (by have:=gm.ld;omega) fd gd
   simp -implicitDefEqProofs[jJ,-natCast_add,-natCast_mul,-natCast_emod,-natCast_ediv,-natCast_pow,-List.reduceReplicate];refine⟨fun q1 q2=> ?_,fun q1=> ?_⟩
   ·have hj1:Fx F[i] R[j]=true:=by rw[hjn];simp[q1,q2]
    rw[if_pos hj1]
    refine Af (Aj [0,0,2,6,14,0,32,96,224,0,512,1536,3584,0,8192,24576,57344,131070,0,262144,0,1048576,3932160,8388606,16777215]) [.any [] [62] [⟨0,[1],[],[62],[]⟩,⟨0,[5],[],[62],[]⟩,⟨0,[46],[],[62],[]⟩,⟨0,[47],[],[62],[]⟩,⟨0,[48],[],[62],[]⟩,⟨0,[5],[],[62],[]⟩,⟨0,[50],[],[62],[]⟩,⟨0,[51],[],[62],[]⟩,⟨0,[52],[],[62],[]⟩,⟨0,[7],[],[62],[]⟩,⟨0,[54],[],[62],[]⟩,⟨0,[55],[],[62],[]⟩,⟨0,[56],[],[62],[]⟩,⟨0,[7],[],[62],[]⟩,⟨0,[58],[],[62],[]⟩,⟨0,[59],[],[62],[]⟩,⟨0,[60],[],[62],[]⟩,⟨4,[49,53,57,61],[],[],[]⟩,⟨0,[5],[],[62],[]⟩,⟨0,[63],[],[62],[]⟩,⟨0,[7],[],[62],[]⟩,⟨0,[65],[],[62],[]⟩,⟨0,[64,66],[],[62],[]⟩,⟨0,[62,67],[],[],[]⟩],.one] (by rfl) ?_
    simp -implicitDefEqProofs[jJ,-natCast_add,-natCast_mul,-natCast_emod,-natCast_ediv,-natCast_pow,-List.reduceReplicate];refine Al km ?_;have em:Di (Ek F[i] R[j])=[.agg [.int .i64 9,.slice 4 [i64 a,i64 b,i64 c',i64 d'],.bool (sg (!decide (F[i].neg=R[j].neg)) (val F[i].abs*val R[j].abs)),Ab (limbs (val F[i].abs*val R[j].abs/Nat.gcd (val F[i].abs*val R[j].abs) (val F[i].den*val R[j].den))),Ab (limbs (val F[i].den*val R[j].den/Nat.gcd (val F[i].abs*val R[j].abs) (val F[i].den*val R[j].den)))]]:=by
     unfold Di Ek;rw[fa,ga];rfl
    simp -implicitDefEqProofs[jJ,-natCast_add,-natCast_mul,-natCast_emod,-natCast_ediv,-natCast_pow,-List.reduceReplicate,Dh];rw[em];refine⟨_,F3 F[i] R (j+1)++(F7 F R (i+1)++rest),by simp[lk];rfl,by simp[St.argsW,U.toA,toD,lk],?_⟩
    simp only[St.reachU,List.flatMap_cons,List.flatMap_nil,U.all,List.append_nil,List.cons_append,List.nil_append,Cb,Ch,Cg];simp -implicitDefEqProofs[jJ,-natCast_add,-natCast_mul,-natCast_emod,-natCast_ediv,-natCast_pow,-List.reduceReplicate,St.backY,St.rest];exact⟨by omega,j+1,⟨rfl,rfl⟩,by omega,by omega⟩
   ·have hj0: ¬Fx F[i] R[j]=true:=by
     rw[hjn]
     simp only[Ax,decide_eq_true_eq,not_and];exact q1
    rw[if_neg hj0]
    exact⟨by omega,j+1,⟨rfl,rfl⟩,by omega,by omega⟩
  ·have:j=R.length:=by omega
   subst this;rw[jeB];simp -implicitDefEqProofs[jJ,-natCast_add,-natCast_mul,-natCast_emod,-natCast_ediv,-natCast_pow,-List.reduceReplicate];exact⟨by omega,i+1,⟨rfl,rfl⟩,by omega,by omega⟩
 ·have hi2:i=F.length:=by omega
  subst hi2;rw[jhV];simp -implicitDefEqProofs[jJ,-natCast_add,-natCast_mul,-natCast_emod,-natCast_ediv,-natCast_pow,-List.reduceReplicate,BH]
end Go.Va
