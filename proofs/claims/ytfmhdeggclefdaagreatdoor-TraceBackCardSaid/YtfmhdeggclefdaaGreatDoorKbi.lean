/- a part of the proof -/
import Derived.Test.YtfmhdeggclefdaaGreatDoorKbh
set_option linter.all false
namespace Go.Va
open Go
theorem QT{n:Int}(h:0≤n):A3 n=Lib.decDigits n.toNat:=by
 unfold A3 intW;rw[if_neg (by rintro⟨h1,_⟩;simp at h1;omega),List.nil_append,show n.natAbs=n.toNat by omega]
theorem jbu{l:List Int}(h: ∀n∈l,0≤n):l.map OD=l.map A3:=List.map_congr_left fun n hn=>by
 rw[QT (h n hn)]
 unfold OD;rw[if_neg (by have:=h n hn;omega)]
def Dk(s p:List UInt8):Option (List UInt8):=if p.isPrefixOf s=true then some (s.drop p.length) else none
def LI(s p:List UInt8):Option (List UInt8):=if p.isSuffixOf s=true then some (s.take (s.length - p.length)) else none
theorem cutP_some{s p r:List UInt8}:Dk s p=some r↔s=p++r:=by
 unfold Dk;split
 ·rename_i h
  obtain⟨t,rfl⟩:=List.isPrefixOf_iff_prefix.1 h
  simp
 ·rename_i h
  simp only[reduceCtorEq,false_iff];rintro rfl;exact h (List.isPrefixOf_iff_prefix.2 (List.prefix_append _ _))
theorem cutX_some{s p r:List UInt8}:LI s p=some r↔s=r++p:=by
 unfold LI;split
 ·rename_i h
  obtain⟨t,rfl⟩:=List.isSuffixOf_iff_suffix.1 h
  simp
 ·rename_i h
  simp only[reduceCtorEq,false_iff];rintro rfl;exact h (List.isSuffixOf_iff_suffix.2 (List.suffix_append _ _))
def Fct.none0:Fct:=⟨0,[],false,[],[]⟩
def FrR.fct(r:FrR):Fct:=⟨r.kind,r.args,r.r.1,limbs r.r.2.1,limbs r.r.2.2⟩
def readF(ns:List ByteArray)(t:List UInt8):Fct×Bool:=
 let r:=H0 ns (Ch t)
 if r.err=0 then (r.fct,decide (wrong r.fct ns.length=0∧Bd r.fct ns=t)) else (.none0,false)
theorem jc8{ns:List ByteArray}{t:List UInt8}{f:Fct}(h:readF ns t=(f,true)):wrong f ns.length=0∧Bd f ns=t:=by
 unfold readF at h;simp only at h;split at h
 ·simp only[Prod.mk.injEq,decide_eq_true_eq]at h;obtain⟨rfl,h⟩:=h;exact h
 ·cases h
theorem RS{f:Fct}{n:Int}(h:wrong f n=0):arity f.kind≠0∧f.args.length=arity f.kind∧(∀a∈f.args,0≤a∧a<n)∧(f.kind=9→CV f.neg f.abs f.den=true)∧(f.kind≠9→f.neg=false∧f.abs=[]∧f.den=[]):=by
 unfold wrong at h;by_cases h1:arity f.kind=0
 ·rw[if_pos h1]at h;cases h
 rw[if_neg h1]at h
 by_cases h2:f.args.length≠arity f.kind
 ·rw[if_pos h2]at h;cases h
 rw[if_neg h2]at h
 by_cases h3:f.args.any (fun a=>decide (a<0)||decide (n≤a))=true
 ·rw[if_pos h3]at h;cases h
 rw[if_neg h3]at h
 refine⟨h1,by omega,fun a ha=> ?_,fun h9=> ?_,fun h9=> ?_⟩
 ·have:=List.any_eq_false.1 (Bool.eq_false_iff.2 h3) a ha
  simp at this;omega
 ·rw[if_pos h9]at h
  cases hr:CV f.neg f.abs f.den with
  |true=>rfl
  |false=>rw[hr]at h;cases h
 ·rw[if_neg h9]at h
  cases hr:DP f.neg f.abs f.den with
  |true=>simp only[DP,AR,Bool.not_eq_true',decide_eq_true_eq]at hr;exact⟨hr.1.1,hr.1.2,hr.2⟩
  |false=>rw[hr]at h;cases h
structure Fct.Small (f:Fct):Prop where
 oa:Ok f.abs
 od:Ok f.den
 la:(Lib.decDigits (val f.abs)).length≤1000
 ld:(Lib.decDigits (val f.den)).length≤1000
theorem jjA{ns:List ByteArray}{f:Fct}(hn:Mb ns)(hw:wrong f ns.length=0)(hf:f.Small)(hs:(Bd f ns).length≤20000):readF ns (Bd f ns)=(f,true):=by
 obtain⟨h1,h2,h3,h4,h5⟩:=RS hw
 have hP:=jf8 hn h1 h2 h3 hs fun h9=>by
  obtain⟨_,_,d0,g,hneg⟩:=Cz (h4 h9) hf.oa hf.od
  exact jgg hf.la hf.ld hneg d0 g
 unfold readF;simp only[hP];have he:(⟨f.kind,f.args,if f.kind=9 then (f.neg,val f.abs,val f.den) else (false,0,0),0,0⟩:FrR).fct=f:=by
  unfold FrR.fct;by_cases h9:f.kind=9
  ·obtain⟨e1,e2,_⟩:=Cz (h4 h9) hf.oa hf.od
   simp only[if_pos h9];rw[←e1,←e2]
  ·obtain⟨e1,e2,e3⟩:=h5 h9
   obtain⟨k,a,ng,ab,dn⟩:=f
   simp only at e1 e2 e3;subst e1 e2 e3;simp only[if_neg h9,Cm]
 rw[he]
 simp[hw]
def Der.none:Der:=⟨.none0,0,[]⟩
def derR(ns:List ByteArray)(i:Nat)(s:List UInt8):Der×Bool:=
 match Dk s (A3 i++[46,32])with
 |none=>(.none,false)
 |some s=>match LI s [32,103,105,118,101,110]with
  |some t=>(⟨(readF ns t).1,0,[]⟩,(readF ns t).2)
  |none=>
   let c:=Lib.cut s [32,98,121,32]
   let d:=Lib.cut c.2.1 [32,102,114,111,109,32]
   if c.2.2=false then (.none,false) else
   if d.2.2=false∨ruleR d.1=0 then (.none,false) else
   match Pw i d.2.1 with
   |none=>(.none,false)
   |some l=>if (l.length:Int)≠Md (ruleR d.1) then (.none,false) else (⟨(readF ns c.1).1,ruleR d.1,l⟩,(readF ns c.1).2)
structure DerOk (ns:List ByteArray) (i:Nat) (x:Der):Prop where
 e:lineE ns.length x=0
 p:(x.frm.length:Int)=Md x.rule
 f: ∀a∈x.frm,0≤a∧a<i
theorem jkY{ns:List ByteArray}{i:Nat}{s:List UInt8}{x:Der}(h:derR ns i s=(x,true)):DerOk ns i x∧CI ns i x=s:=by
 unfold derR at h;split at h
 ·cases h
 rename_i s0 s1 h1
 have h1:=cutP_some.1 h1;split at h
 ·rename_i t h2
  have h2:=cutX_some.1 h2;simp only[Prod.mk.injEq]at h;obtain⟨rfl,h⟩:=h;obtain⟨w,p⟩:=jc8 (f:=(readF ns t).1) (Prod.ext rfl h);refine⟨⟨?_,rfl,fun a ha=>by cases ha⟩,?_⟩
  ·unfold lineE;rw[if_neg (show ¬Bp 0=[] by decide)]
   exact w
  ·unfold CI Cc FD;simp only[p,if_pos];rw[h1,h2]
 ·simp only at h;split at h
  ·cases h
  rename_i hc
  split at h
  ·cases h
  rename_i hd
  simp only[not_or,Bool.not_eq_false]at hc hd;obtain⟨hd,hr⟩:=hd;obtain⟨r1,r2,r3⟩:=jk2 hr;split at h
  ·cases h
  rename_i l hl
  split at h
  ·cases h
  rename_i hp
  simp only[Prod.mk.injEq]at h;obtain⟨rfl,h⟩:=h;obtain⟨w,p⟩:=jc8 (f:=(readF ns (Lib.cut s1 [32,98,121,32]).1).1) (Prod.ext rfl h);obtain⟨l0,l1,l2⟩:=fromR_iff.1 hl;have j1:=P8 hc;have j2:=P8 hd;refine⟨⟨?_,by simpa using hp,l2⟩,?_⟩
  ·unfold lineE;rw[if_neg]
   ·exact w
   ·intro e;simp only at e;have:=X0 ((ruleR (Lib.cut (Lib.cut s1 [32,98,121,32]).2.1 [32,102,114,111,109,32]).1).toNat - 1) (by omega)
    rw[show(((ruleR (Lib.cut (Lib.cut s1 [32,98,121,32]).2.1 [32,102,114,111,109,32]).1).toNat - 1+1:Nat):Int)=ruleR (Lib.cut (Lib.cut s1 [32,98,121,32]).2.1 [32,102,114,111,109,32]).1 by omega,e]at this
    exact this.1 rfl
  ·unfold CI Cc FD;simp only[p];rw[if_neg hr,r1,←jbu fun n hn=>(l2 n hn).1,←l1,h1,←j1]
   simp only[List.append_assoc];rw[j1]
   conv=>rhs;rw[←j1,←j2]
theorem Xi{r:Int}(h:Bp r≠[]):0≤r∧r≤28:=by
 by_cases h0:0≤r∧r≤28
 ·exact h0
 ·refine absurd ?_ h;unfold Bp;rw[if_neg (by omega)]
  have:MW r.toNat=RRul.zero:=by
   unfold MW;split<;>first|rfl|omega
  rw[this]
  rfl
theorem jh7{ns:List ByteArray}{i:Nat}{x:Der}(hn:Mb ns)(hx:DerOk ns i x)(hf:x.fact.Small)(hs:(Bd x.fact ns).length≤20000)(hp:x.rule≠0→x.frm≠[]):derR ns i (CI ns i x)=(x,true):=by
 obtain⟨e,p,f⟩:=hx
 unfold lineE at e;by_cases h0:Bp x.rule=[]
 ·rw[if_pos h0]at e;cases e
 rw[if_neg h0]at e
 have hF:=jjA hn e hf hs;obtain⟨w1,w2,w3,w4,w5⟩:=RS e;have hpl: ∀w∈DQ x.fact ns,Pl w:=fun w hw=>by
  rcases List.mem_append.1 hw with h|h
  ·obtain⟨a,ha',rfl⟩:=jzk.1 h
   obtain⟨a0,a1⟩:=w3 a ha'
   have hi:a.toNat<ns.length:=by omega
   unfold AN;rw[AL,AD hi];exact hn.1 _ (AZ hi)
  ·split at h
   ·simp at h;subst h;exact Uu
   ·cases h
 have hok:Li (Bd x.fact ns)=true:=jgx (Uw w1) hpl
 unfold derR;have h1:Dk (CI ns i x) (A3 i++[46,32])=some (Cc ns x):=cutP_some.2 rfl;simp only[h1];obtain⟨fc,r,l⟩:=x;simp only at*;by_cases hr:r=0
 ·subst hr;have h2:LI (Cc ns ⟨fc,0,l⟩) [32,103,105,118,101,110]=some (Bd fc ns):=cutX_some.2 (by unfold Cc FD;simp)
  have hl:l=[]:=by
   have:(l.length:Int)=0:=p
   exact jzv.1 (by omega)
  subst hl;simp only[h2,hF]
 ·obtain⟨r0,r1⟩:=Xi h0
  have hlN:=hp hr;obtain⟨a,l',hll⟩: ∃a l',l=l'++[a]:=⟨l.getLast hlN,l.dropLast,(List.dropLast_concat_getLast hlN).symm⟩;have ha:=f a (by rw[hll];simp)
  have hW:Cc ns ⟨fc,r,l⟩=Bd fc ns++([32,98,121,32]++(Bp r++([32,102,114,111,109,32]++Bc (l.map A3)))):=by
   unfold Cc FD;simp only[if_neg hr,List.append_assoc]
  have hlast: ∃t c,Bc (l.map A3)=t++[c]∧KI c=true:=by
   have hd: ∃d c,A3 a=d++[c]∧KI c=true:=by
    rw[QT ha.1]
    exact⟨_,_,(List.dropLast_concat_getLast (RI _)).symm,UV (List.getLast_mem _)⟩
   obtain⟨d,c,hd,hc⟩:=hd
   have: ∀(L:List (List UInt8)) (y:List UInt8),∃t,Bc (L++[y])=t++y:=fun L=>by
    induction L with
    |nil=>intro y;exact⟨[],OR y⟩
    |cons z L ih=>
     intro y;obtain⟨t,ht⟩:=ih y;cases L with
     |nil=>exact⟨z++[44,32],by rw[List.cons_append,List.nil_append,Na,OR];simp⟩
     |cons z' L=>exact⟨z++44::32::t,by rw[List.cons_append,List.cons_append,Na,←List.cons_append,ht];simp⟩
   obtain⟨t,ht⟩:=this (l'.map A3) (A3 a)
   exact⟨t++d,c,by rw[hll,List.map_append,List.map_cons,List.map_nil,ht,hd,List.append_assoc],hc⟩
  have h2:LI (Cc ns ⟨fc,r,l⟩) [32,103,105,118,101,110]=none:=by
   cases hx:LI (Cc ns ⟨fc,r,l⟩) [32,103,105,118,101,110]with
   |none=>rfl
   |some t=>
    have:=cutX_some.1 hx
    obtain⟨t',c,ht,hc⟩:=hlast
    rw[hW,ht]at this
    have:=congrArg List.getLast? this
    simp only[←List.append_assoc,List.getLast?_append,List.getLast?_singleton]at this;have e:c=110:=by simpa using this
    subst e;exact absurd hc (by decide)
  have hname:Pl (Bp r)∧ruleR (Bp r)=r:=by
   have q:=X0 (r.toNat - 1) (by omega)
   have q2:=Vx (r.toNat - 1) (by omega)
   rw[show((r.toNat - 1+1:Nat):Int)=r by omega]at q q2
   exact⟨q,q2⟩
  have c1:Lib.cut (Cc ns ⟨fc,r,l⟩) [32,98,121,32]=(Bd fc ns,Bp r++([32,102,114,111,109,32]++Bc (l.map A3)),true):=by
   rw[hW]
   exact WE fun j hj=>jdG (v:=[98,121]) (by decide) _ hok j hj
  have c2:Lib.cut (Bp r++([32,102,114,111,109,32]++Bc (l.map A3))) [32,102,114,111,109,32]=(Bp r,Bc (l.map A3),true):=
   WE fun j hj=>jk4 hname.1.2 j hj
  have h3:Pw i (Bc (l.map A3))=some l:=fromR_iff.2 ⟨hlN,by rw[jbu fun n hn=>(f n hn).1],f⟩
  simp only[h2,c1,c2,h3,hF,hname.2];simp[hr,p]
def UK(ns:List ByteArray)(l:List (List UInt8)):Option (List Int):=l.mapM fun x=>(F2 (Ch x) ns).map fun(n:Nat)=>(n:Int)
def OE(ns:List ByteArray)(k:Int)(t:List UInt8):Option Grd:=
 match LI t [41]with
 |none=>none
 |some u=>if ((Pq u).length:Int)≠grdN k then none else (UK ns (Pq u)).map fun l=>⟨k,l⟩
def Nw(ns:List ByteArray)(s:List UInt8):Option Grd:=
 match Dk s (A7 1++[40])with
 |some t=>OE ns 1 t
 |none=>match Dk s (A7 2++[40])with
  |some t=>OE ns 2 t
  |none=>match Dk s (A7 3++[40])with
   |some t=>OE ns 3 t
   |none=>none
theorem ZE{x:ByteArray}: ∀{ns:List ByteArray} {i:Nat},F2 x ns=some i→i<ns.length∧ns[i]? =some x
 |y::l,i,h=>by
  unfold F2 at h;split at h
  ·rename_i e;subst e;cases h;simp
  ·cases hl:F2 x l with
   |none=>rw[hl]at h;cases h
   |some j=>
    rw[hl]at h
    cases h;obtain⟨h1,h2⟩:=ZE hl
    exact⟨by simpa using h1,by simpa using h2⟩
theorem X8{ns:List ByteArray}(hn:ns.Nodup): ∀{l:List (List UInt8)} {al:List Int},UK ns l=some al↔l=al.map (AN ns)∧ ∀a∈al,0≤a∧a<ns.length
 |[],al=>by
  unfold UK;simp only[List.mapM_nil,Option.pure_def,Option.some.injEq]
  constructor
  ·rintro rfl;simp
  ·rintro⟨h,_⟩;cases al with
   |nil=>rfl
   |cons=>cases h
 |x::l,al=>by
  have ih:=fun al=>X8 hn (l:=l) (al:=al)
  have nb: ∀i,i<ns.length→AN ns (i:Int)=x→F2 (Ch x) ns=some i:=fun i hi e=>by
   unfold AN at e;rw[Int.toNat_natCast,AL,AD hi]at e;have:Ch x=ns[i]:=by rw[←e];rfl
   rw[this,Yj hn hi]
  have bn: ∀i,F2 (Ch x) ns=some i→i<ns.length∧AN ns (i:Int)=x:=fun i hi=>by
   obtain⟨h1,h2⟩:=ZE hi
   refine⟨h1,?_⟩
   unfold AN;rw[Int.toNat_natCast,AL,h2];rfl
  unfold UK at*;rw[List.mapM_cons]
  constructor
  ·intro h;cases hx:F2 (Ch x) ns with
   |none=>rw[hx]at h;cases h
   |some k=>
    rw[hx]at h
    cases hl:l.mapM (fun x=>(F2 (Ch x) ns).map fun(n:Nat)=>(n:Int))with
    |none=>rw[hl]at h;cases h
    |some r=>
     rw[hl]at h
     obtain⟨i1,i2⟩:=(ih r).1 hl
     obtain⟨b1,b2⟩:=bn k hx
     have h:(k:Int)::r=al:=by simpa using h
     subst h;refine⟨by rw[List.map_cons,←i1,b2],fun n hn=> ?_⟩
     rcases jzn.1 hn with rfl|hn
     ·omega
     ·exact i2 n hn
  ·rintro⟨h,hn'⟩
   cases al with
   |nil=>cases h
   |cons a al=>
    simp only[List.map_cons,List.cons.injEq]at h;obtain⟨a0,a1⟩:=hn' a (by simp)
    rw[nb a.toNat (by omega) (by rw[show((a.toNat:Nat):Int)=a by omega];exact h.1.symm),(ih al).2 ⟨h.2,fun b hb=>hn' b (by simp[hb])⟩]
    simp
    omega
theorem Xc{ns:List ByteArray}(hn:ns.Nodup){k:Int}{t:List UInt8}{g:Grd}(h:OE ns k t=some g)(hk:k=1∨k=2∨k=3):errG ns.length g=0∧A7 k++[40]++t=Bq ns g:=by
 unfold OE at h;split at h
 ·cases h
 rename_i u hu
 have hu:=cutX_some.1 hu;split at h
 ·cases h
 rename_i hl
 rw[jze]at h
 obtain⟨al,ha,rfl⟩:=h
 obtain⟨h1,h2⟩:=(X8 hn).1 ha
 have hj:=XV u;rw[h1]at hj hl
 constructor
 ·unfold errG;have:(al.map (AN ns)).length=al.length:=by simp
  have hk':grdN k≠ -1:=by rcases hk with rfl|rfl|rfl<;>decide
  rw[if_neg hk',if_neg (by rw[←this];exact hl),if_neg]
  simp only[List.any_eq_true,not_exists,not_and,Bool.not_eq_true];intro a ha;have:=h2 a ha;unfold Di;simp only[Bool.or_eq_false_iff,decide_eq_false_iff_not];omega
 ·unfold Bq;rw[hj,hu];simp
theorem jjz{ns:List ByteArray}(hn:ns.Nodup){s:List UInt8}{g:Grd}(h:Nw ns s=some g):errG ns.length g=0∧Bq ns g=s:=by
 unfold Nw at h;split at h
 ·rename_i t ht
  obtain⟨h1,h2⟩:=Xc hn h (by simp)
  exact⟨h1,by rw[←h2,cutP_some.1 ht]⟩
 split at h
 ·rename_i t ht
  obtain⟨h1,h2⟩:=Xc hn h (by simp)
  exact⟨h1,by rw[←h2,cutP_some.1 ht]⟩
 split at h
 ·rename_i t ht
  obtain⟨h1,h2⟩:=Xc hn h (by simp)
  exact⟨h1,by rw[←h2,cutP_some.1 ht]⟩
 ·cases h
theorem jlr{ns:List ByteArray}(hn:Mb ns){g:Grd}(h:errG ns.length g=0):Nw ns (Bq ns g)=some g:=by
 obtain⟨k,al⟩:=g
 unfold errG at h;simp only at h;by_cases h1:grdN k= -1
 ·rw[if_pos h1]at h;cases h
 rw[if_neg h1]at h
 by_cases h2:(al.length:Int)≠grdN k
 ·rw[if_pos h2]at h;cases h
 rw[if_neg h2]at h
 by_cases h3:al.any (Di ns.length)=true
 ·rw[if_pos h3]at h;cases h
 have ha: ∀a∈al,0≤a∧a<ns.length:=fun a ha=>by
  have:=List.any_eq_false.1 (Bool.eq_false_iff.2 h3) a ha
  unfold Di at this;simp at this;omega
 have hpl: ∀w∈al.map (AN ns),Pl w:=fun w hw=>by
  obtain⟨a,ha',rfl⟩:=jzk.1 hw
  obtain⟨a0,a1⟩:=ha a ha'
  have hi:a.toNat<ns.length:=by omega
  unfold AN;rw[AL,AD hi];exact hn.1 _ (AZ hi)
 have hne:al.map (AN ns)≠[]:=fun e=>by
  have:al=[]:=by simpa using e
  subst this;unfold grdN at h2;simp only[List.length_nil]at h2;split at h2
  ·omega
  split at h2
  ·omega
  split at h2<;>omega
 have key:OE ns k (Bc (al.map (AN ns))++[41])=some ⟨k,al⟩:=by
  unfold OE;rw[cutX_some.2 rfl];simp only;rw[XA hne fun w hw=>(hpl w hw).2,if_neg (by simpa using h2),(X8 hn.2).2 ⟨rfl,ha⟩]
  rfl
 have hW:Bq ns ⟨k,al⟩=A7 k++[40]++(Bc (al.map (AN ns))++[41]):=by
  unfold Bq;simp
 have hk:k=1∨k=2∨k=3:=by
  unfold grdN at h1
  grind
 have no: ∀(a b:List UInt8) (t:List UInt8),(∃n,n<a.length∧n<b.length∧a[n]? ≠b[n]?)→Dk (a++t) b=none:=fun a b t ⟨n,n1,n2,n3⟩=>by
  cases hc:Dk (a++t) b with
  |none=>rfl
  |some u=>
   have:=congrArg (·[n]?) (cutP_some.1 hc)
   simp only[List.getElem?_append_left n1,List.getElem?_append_left n2]at this;exact absurd this n3
 unfold Nw;rw[hW];rcases hk with rfl|rfl|rfl
 ·rw[cutP_some.2 rfl]
  exact key
 ·rw[no (A7 2++[40]) (A7 1++[40]) _ ⟨0,by decide⟩,cutP_some.2 rfl]
  exact key
 ·rw[no (A7 3++[40]) (A7 1++[40]) _ ⟨0,by decide⟩,no (A7 3++[40]) (A7 2++[40]) _ ⟨0,by decide⟩,cutP_some.2 rfl]
  exact key
theorem Vk{s sep:List UInt8}(h0:sep≠[])(h:(Lib.cut s sep).2.2=true):(Lib.cut s sep).2.1.length<s.length:=by
 have:=congrArg List.length (P8 h)
 simp only[List.length_append]at this;have:=List.length_pos_iff.2 h0;omega
def KQ(ns:List ByteArray)(ds:List Der)(gs:List Grd)(n:Int)(s:List UInt8):List Der×List Grd×Int×Int:=
 if s=[] then (ds,gs,0,0) else
 if h:(Lib.cut s [10]).2.2=true then
  match Dk (Lib.cut s [10]).1 [105,102,32]with
  |some t=>match Nw ns t with
   |none=>([],[],n,9)
   |some g=>KQ ns ds (gs++[g]) (n+1) (Lib.cut s [10]).2.1
  |none=>if (derR ns ds.length (Lib.cut s [10]).1).2=false∨gs≠[] then ([],[],n,9) else KQ ns (ds++[(derR ns ds.length (Lib.cut s [10]).1).1]) gs (n+1) (Lib.cut s [10]).2.1
 else ([],[],n,10)
termination_by s.length
decreasing_by all_goals exact Vk (by simp) h
def Lr(ns:List ByteArray):Nat→List Der→List UInt8
 |_,[]=>[]
 |i,x::r=>CI ns i x++[10]++Lr ns (i+1) r
def K6(ns:List ByteArray)(gs:List Grd):List UInt8:=gs.flatMap fun g=>[105,102,32]++Bq ns g++[10]
theorem jfh(ns:List ByteArray): ∀(ds:List Der) (i:Nat),((ds.zipIdx i).flatMap fun p=>CI ns p.2 p.1++[10])=Lr ns i ds
 |[],_=>rfl
 |x::r,i=>by
  rw[List.zipIdx_cons,List.flatMap_cons,jfh ns r (i+1)]
  rfl
theorem Th(ns:List ByteArray)(ds:List Der)(gs:List Grd):C4 ns ds gs=Lr ns 0 ds++K6 ns gs:=by
 unfold C4 A1 Bn K6;rw[BM,BM,jfh]
theorem ZC(ns:List ByteArray)(x:Der): ∀(ds:List Der) (i:Nat),Lr ns i (ds++[x])=Lr ns i ds++(CI ns (i+ds.length) x++[10])
 |[],i=>by simp[Lr]
 |y::r,i=>by
  rw[List.cons_append,Lr,ZC ns x r (i+1),Lr,List.append_assoc,List.append_assoc,List.append_assoc,show i+1+r.length=i+(y::r).length by rw[List.length_cons];omega]
theorem jlH(ns:List ByteArray)(g:Grd)(gs:List Grd):K6 ns (gs++[g])=K6 ns gs++([105,102,32]++Bq ns g++[10]):=by
 unfold K6;rw[List.flatMap_append];simp
def DersOk(ns:List ByteArray)(ds:List Der):Prop:= ∀i x,ds[i]? =some x→DerOk ns i x
theorem DersOk.snoc{ns:List ByteArray}{ds:List Der}(h:DersOk ns ds){x:Der}(hx:DerOk ns ds.length x):DersOk ns (ds++[x]):=fun i y hy=>by
 by_cases hi:i<ds.length
 ·rw[List.getElem?_append_left hi]at hy
  exact h i y hy
 ·rw[List.getElem?_append_right (by omega)]at hy
  have:i - ds.length=0:=by
   cases hz:i - ds.length with
   |zero=>rfl
   |succ k=>rw[hz]at hy;simp at hy
  rw[this]at hy
  cases hy;rw[show i=ds.length by omega]
  exact hx
theorem jmN{ns:List ByteArray}(hn:ns.Nodup){ds:List Der}{gs:List Grd}{n:Int}{s:List UInt8}(hd:DersOk ns ds)(hg: ∀g∈gs,errG ns.length g=0){ds':List Der}{gs':List Grd}{m:Int}
  (h:KQ ns ds gs n s=(ds',gs',m,0)):DersOk ns ds'∧(∀g∈gs',errG ns.length g=0)∧C4 ns ds' gs'=C4 ns ds gs++s∧ds'.length≤ds.length+s.length∧gs'.length≤gs.length+s.length:=by
 induction hk:s.length using Nat.strongRecOn generalizing ds gs n s with
 |ind k ih=>
  rw[KQ]at h
  split at h
  ·rename_i h0
   subst h0;simp only[Prod.mk.injEq,true_and]at h;obtain⟨rfl,rfl,_⟩:=h;exact⟨hd,hg,by simp,by omega,by omega⟩
  split at h
  ·rename_i h0 hc
   have hj:=P8 hc;have hlt:=Vk (by simp) hc
   split at h
   ·rename_i t ht
    have ht:=cutP_some.1 ht;split at h
    ·simp at h
    ·rename_i g hgr
     obtain⟨g1,g2⟩:=jjz hn hgr
     obtain⟨i1,i2,i3,i4,i5⟩:=ih _ (by omega) hd (fun x hx=>by rcases List.mem_append.1 hx with hx|hx;exact hg x hx;rw[List.mem_singleton.1 hx];exact g1) h rfl
     refine⟨i1,i2,?_,by omega,by rw[List.length_append,List.length_singleton]at i5;omega⟩
     rw[i3,Th,Th,jlH,g2,←ht]
     simp only[List.append_assoc];rw[hj]
   ·split at h
    ·simp at h
    ·rename_i hx
     simp only[not_or,Bool.not_eq_false,ne_eq,Classical.not_not]at hx;obtain⟨hx,rfl⟩:=hx;obtain⟨d1,d2⟩:=jkY (x:=(derR ns ds.length (Lib.cut s [10]).1).1) (Prod.ext rfl hx);obtain⟨i1,i2,i3,i4,i5⟩:=ih _ (by omega) (hd.snoc d1) hg h rfl
     refine⟨i1,i2,?_,by rw[List.length_append,List.length_singleton]at i4;omega,by omega⟩
     rw[i3,Th,Th,ZC,Nat.zero_add,d2]
     simp only[K6,List.flatMap_nil,List.append_nil,List.append_assoc];rw[hj]
  ·simp at h
theorem XI{α:Type}{e:α→Int}: ∀{l:List α},(∀x∈l,e x=0)→CZ e l=0
 |[],_=>rfl
 |x::l,h=>by
  rw[CZ,if_pos (h x (by simp))]
  exact XI fun y hy=>h y (by simp[hy])
theorem jh6{ns:List ByteArray}{ds:List Der}{gs:List Grd}(hd:DersOk ns ds)(hg: ∀g∈gs,errG ns.length g=0):textE ns.length ds gs=0:=by
 unfold textE;have:CZ (lineE ns.length) ds=0:=XI fun x hx=>by
  obtain⟨i,hi,rfl⟩:=List.mem_iff_getElem.1 hx
  exact(hd i _ (AD hi)).e
 rw[if_pos this]
 exact XI hg
def noNl(l:List UInt8):Prop:= ∀c∈l,c≠10
theorem noNl.app{a b:List UInt8}(ha:noNl a)(hb:noNl b):noNl (a++b):=fun c hc=>by
 rcases List.mem_append.1 hc with h|h
 ·exact ha c h
 ·exact hb c h
theorem SB{w:List UInt8}(h: ∀c∈w,Eb c=false∧HX c=false):noNl w:=fun c hc e=>by
 subst e;exact absurd (h 10 hc).1 (by decide)
theorem U5: ∀{l:List (List UInt8)},(∀w∈l,noNl w)→noNl (Bc l)
 |[],_=>by simp[Bc,Lib.join_nil,noNl]
 |[w],h=>by rw[OR];exact h w (by simp)
 |x::y::r,h=>by
  rw[Na]
  refine(h x (by simp)).app fun c hc=> ?_
  rcases jzn.1 hc with rfl|hc
  ·decide
  rcases jzn.1 hc with rfl|hc
  ·decide
  exact U5 (l:=y::r) (fun w hw=>h w (by simp[hw])) c hc
theorem jjN{ns:List ByteArray}(hn:Mb ns){f:Fct}(ha: ∀a∈f.args,0≤a∧a<ns.length): ∀w∈DQ f ns,Pl w:=fun w hw=>by
 rcases List.mem_append.1 hw with h|h
 ·obtain⟨a,ha',rfl⟩:=jzk.1 h
  obtain⟨a0,a1⟩:=ha a ha'
  have hi:a.toNat<ns.length:=by omega
  unfold AN;rw[AL,AD hi];exact hn.1 _ (AZ hi)
 ·split at h
  ·simp at h;subst h;exact Uu
  ·cases h
theorem jfm{n:Int}(h:0≤n):noNl (A3 n):=SB fun c hc=>by
 rw[QT h]at hc
 exact(RA (neg:=false) (by simpa using hc)).2
theorem jks{ns:List ByteArray}(hn:Mb ns){i:Nat}{x:Der}(hx:DerOk ns i x):noNl (CI ns i x):=by
 obtain⟨e,p,f⟩:=hx
 unfold lineE at e;by_cases h0:Bp x.rule=[]
 ·rw[if_pos h0]at e;cases e
 rw[if_neg h0]at e
 obtain⟨w1,w2,w3,w4,w5⟩:=RS e
 have hc:=U5 (l:=DQ x.fact ns) fun w hw=>SB (jjN hn w3 w hw).2
 unfold CI Cc Bd FD;refine((jfm (by omega)).app (by unfold noNl;decide)).app ((((SB (Uw w1).2).app (by unfold noNl;decide)).app hc|>.app (by unfold noNl;decide)).app ?_)
 split
 ·unfold noNl;decide
 ·rename_i hr
  obtain⟨r0,r1⟩:=Xi h0
  have q:=X0 (x.rule.toNat - 1) (by omega)
  rw[show((x.rule.toNat - 1+1:Nat):Int)=x.rule by omega]at q
  refine((((by unfold noNl;decide:noNl [32,98,121,32]).app (SB q.2)).app (by unfold noNl;decide)).app (U5 fun w hw=> ?_))
  obtain⟨a,ha,rfl⟩:=jzk.1 hw
  exact jfm (f a ha).1
theorem jjD{ns:List ByteArray}(hn:Mb ns){g:Grd}(h:errG ns.length g=0):noNl ([105,102,32]++Bq ns g):=by
 unfold errG at h;by_cases h1:grdN g.kind= -1
 ·rw[if_pos h1]at h;cases h
 rw[if_neg h1]at h
 by_cases h2:(g.args.length:Int)≠grdN g.kind
 ·rw[if_pos h2]at h;cases h
 rw[if_neg h2]at h
 by_cases h3:g.args.any (Di ns.length)=true
 ·rw[if_pos h3]at h;cases h
 have hw:noNl (A7 g.kind):=by
  unfold A7 noNl
  repeat' split
  all_goals decide
 unfold Bq;refine(by unfold noNl;decide:noNl [105,102,32]).app (((hw.app (by unfold noNl;decide)).app (U5 fun w hw=> ?_)).app (by unfold noNl;decide))
 obtain⟨a,ha',rfl⟩:=jzk.1 hw
 have:=List.any_eq_false.1 (Bool.eq_false_iff.2 h3) a ha'
 unfold Di at this;simp at this;have hi:a.toNat<ns.length:=by omega
 unfold AN;rw[AL,AD hi];exact SB (hn.1 _ (AZ hi)).2
theorem jdV{a b:List UInt8}(h:noNl a):Lib.cut (a++([10]++b)) [10]=(a,b,true):=WE fun j hj=>by
 cases ho:Lib.occAt (a++([10]++b)) [10] j with
 |false=>rfl
 |true=>
  have h1:=Lib.occAt_head rfl ho;rw[List.getElem?_append_left hj,AD hj]at h1;exact absurd (Bi h1) (h _ (AZ hj))
theorem jbN{ns:List ByteArray}(hn:Mb ns): ∀(gs0 gs:List Grd) (ds:List Der) (n:Int),(∀g∈gs,errG ns.length g=0)→KQ ns ds gs0 n (K6 ns gs)=(ds,gs0++gs,0,0)
 |gs0,[],ds,n,_=>by
  rw[KQ,if_pos (by rfl)]
  simp
 |gs0,g::gs,ds,n,h=>by
  have e:K6 ns (g::gs)=([105,102,32]++Bq ns g)++([10]++K6 ns gs):=by
   unfold K6;simp
  have hc:=jdV (b:=K6 ns gs) (jjD hn (h g (by simp)))
  rw[KQ,e,if_neg (by simp),dif_pos (by rw[hc])]
  rw[hc]
  simp only;rw[cutP_some.2 rfl];simp only;rw[jlr hn (h g (by simp))]
  simp only;rw[jbN hn (gs0++[g]) gs ds (n+1) fun x hx=>h x (by simp[hx])]
  simp
theorem jfP{ns:List ByteArray}(hn:Mb ns)(gs:List Grd)(hg: ∀g∈gs,errG ns.length g=0): ∀(l ds:List Der) (n:Int),(∀i x,l[i]? =some x→DerOk ns (ds.length+i) x∧x.fact.Small∧(Bd x.fact ns).length≤20000∧(x.rule≠0→x.frm≠[]))→
  KQ ns ds [] n (Lr ns ds.length l++K6 ns gs)=(ds++l,gs,0,0)
 |[],ds,n,_=>by
  rw[Lr,List.nil_append,jbN hn [] gs ds n hg]
  simp
 |x::l,ds,n,h=>by
  obtain⟨h1,h2,h3,h4⟩:=h 0 x rfl
  rw[Nat.add_zero]at h1
  have e:Lr ns ds.length (x::l)++K6 ns gs=CI ns ds.length x++([10]++(Lr ns (ds.length+1) l++K6 ns gs)):=by
   rw[Lr]
   simp
  have hc:=jdV (b:=Lr ns (ds.length+1) l++K6 ns gs) (jks hn h1);have hd:=jh7 hn h1 h2 h3 h4;rw[KQ,e,if_neg (by simp),dif_pos (by rw[hc])]
  rw[hc]
  simp only;have hif:Dk (CI ns ds.length x) [105,102,32]=none:=by
   cases hq:Dk (CI ns ds.length x) [105,102,32]with
   |none=>rfl
   |some t=>
    have:=cutP_some.1 hq
    unfold CI at this;rw[QT (by omega)]at this
    cases hdd:Lib.decDigits ((ds.length:Int)).toNat with
    |nil=>exact absurd hdd (RI _)
    |cons c r=>
     have hm:c∈Lib.decDigits ((ds.length:Int)).toNat:=by rw[hdd];simp
     have hm:=UV hm;rw[hdd]at this;simp only[List.cons_append,List.append_assoc,List.cons.injEq]at this;rw[this.1]at hm;exact absurd hm (by decide)
  rw[hif]
  simp only;rw[hd];simp only[Bool.true_eq_false,ne_eq,not_true_eq_false,or_self,if_false];have:=jfP hn gs hg l (ds++[x]) (n+1) fun i y hy=>by
   have:=h (i+1) y (by simpa using hy)
   rw[List.length_append,List.length_singleton,show ds.length+1+i=ds.length+(i+1) by omega]
   exact this
  rw[List.length_append,List.length_singleton]at this
  rw[this]
  simp
end Go.Va
