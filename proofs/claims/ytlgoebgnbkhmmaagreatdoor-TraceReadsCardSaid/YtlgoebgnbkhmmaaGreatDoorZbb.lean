/- a part of the proof -/
import Derived.Test.YtlgoebgnbkhmmaaGreatDoorZba
import Derived.Lib.Split
set_option linter.all false
namespace Go.Va
open Go
def blk:List UInt8→Bool
 |[]=>false
 |c::r=>if HX c then true else if Eb c then false else blk r
def Li:List UInt8→Bool
 |[]=>true
 |c::r=>(c !=32||blk r)&&Li r
theorem jcO: ∀{a:List UInt8} (b:List UInt8),blk a=true→blk (a++b)=true
 |c::r,b,h=>by
  rw[List.cons_append,blk]
  rw[blk]at h
  split
  ·rfl
  ·rename_i h1
   rw[if_neg h1]at h
   split
   ·grind
   ·rename_i h2;rw[if_neg h2]at h;exact jcO b h
theorem jdN: ∀{v r:List UInt8},(∀c∈v,Eb c=false∧HX c=false)→blk r=true→(v++[32]).isPrefixOf r=false
 |[],c::r,_,h=>by
  rw[List.nil_append,List.isPrefixOf]
  simp only[Bool.and_eq_false_iff,beq_eq_false_iff_ne,ne_eq]
  grind[absurd,blk,HX,Eb]
 |x::v,c::r,hv,h=>by
  rw[List.cons_append,List.isPrefixOf]
  simp only[Bool.and_eq_false_iff,beq_eq_false_iff_ne,ne_eq];by_cases e:x=c
  ·subst e;obtain⟨h1,h2⟩:=hv x (by simp)
   rw[blk,h1,h2]at h
   exact .inr (jdN (by grind) (by simpa using h))
  ·exact .inl e
theorem jdG{v:List UInt8}(hv: ∀c∈v,Eb c=false∧HX c=false): ∀{a:List UInt8} (b:List UInt8),Li a=true→ ∀j,j<a.length→Lib.occAt (a++b) (32::v++[32]) j=false
 |c::r,b,h,0,_=>by
  rw[Li]at h
  simp only[AR,Bool.or_eq_true,bne_iff_ne,ne_eq]at h;unfold Lib.occAt;rw[List.drop_zero,List.cons_append,List.cons_append,List.isPrefixOf];simp only[Bool.and_eq_false_iff,beq_eq_false_iff_ne,ne_eq]
  grind[absurd,jdN,jcO]
 |c::r,b,h,j+1,hj=>by
  rw[Li]at h
  simp only[AR]at h;exact jdG hv b h.2 j (by simpa using hj)
theorem WE{a b sep:List UInt8}(h: ∀j,j<a.length→Lib.occAt (a++(sep++b)) sep j=false):Lib.cut (a++(sep++b)) sep=(a,b,true):=by
 have hi:=Lib.index_first (s:=a++(sep++b)) (sub:=sep) (i:=a.length) (by simp) (by unfold Lib.occAt;rw[List.drop_left];exact List.isPrefixOf_iff_prefix.2 (List.prefix_append _ _)) h
 simp_all[Lib.cut,if_pos,Int.toNat_natCast,List.take_left,List.append_assoc,List.drop_left]
theorem P8{s sep:List UInt8}(h:(Lib.cut s sep).2.2=true):(Lib.cut s sep).1++(sep++(Lib.cut s sep).2.1)=s:=by
 unfold Lib.cut at*;split at h
 ·rename_i h0
  rw[if_pos h0]
  obtain⟨i,hi⟩:=Int.eq_ofNat_of_zero_le h0
  rcases Lib.index_spec s sep with⟨h1,_⟩|⟨i',h1,h2,h3,_⟩
  ·omega
  ·have e:i'=i:=by omega
   subst e;simp only[hi,Int.toNat_natCast];unfold Lib.occAt at h3;obtain⟨t,ht⟩:=List.isPrefixOf_iff_prefix.1 h3
   grind[List.drop_drop,List.drop_left,List.take_append_drop]
 ·cases h
theorem Vc: ∀{w:List UInt8} (r:List UInt8),(∀c∈w,Eb c=false∧HX c=false)→Li r=true→Li (w++r)=true
 |[],_,_,h=>h
 |c::w,r,hw,h=>by
  have hc:(c !=32)=true:=by
   rw[bne_iff_ne]
   intro e;subst e;exact absurd (hw 32 (by simp)).1 (by decide)
  rw[List.cons_append,Li,hc,Vc r (by grind) h]
  rfl
theorem Yb: ∀{w:List UInt8} (c:UInt8) (r:List UInt8),(∀x∈w,Eb x=false∧HX x=false)→HX c=true→blk (w++c::r)=true
 |[],c,r,_,h=>by simp[blk,h]
 |x::w,c,r,hw,h=>by
  obtain⟨h1,h2⟩:=hw x (by simp)
  rw[List.cons_append,blk,h1,h2]
  simpa using Yb c r (by grind) h
theorem jfx: ∀{l:List (List UInt8)},(∀w∈l,Pl w)→Li (Bc l++[41])=true∧(l≠[]→blk (Bc l++[41])=true)
 |[],_=>⟨by rfl,(by simp)⟩
 |[w],h=>by
  have hw:=(h w (by simp)).2
  rw[OR]
  exact⟨Vc _ hw (by decide),fun _=>Yb _ _ hw (by decide)⟩
 |x::y::r,h=>by
  have hw:=(h x (by simp)).2
  obtain⟨i1,i2⟩:=jfx (l:=y::r) (by grind)
  rw[Na,List.append_assoc,List.cons_append,List.cons_append]
  refine⟨Vc _ hw ?_,fun _=>Yb _ _ hw (by decide)⟩
  rw[Li,Li,i1,i2 (by simp)]
  rfl
theorem jgx{w:List UInt8}{l:List (List UInt8)}(hw:Pl w)(h: ∀w∈l,Pl w):Li (w++[40]++Bc l++[41])=true:=by
 rw[List.append_assoc,List.append_assoc]
 refine Vc _ hw.2 ?_;rw[List.singleton_append,Li,(jfx h).1];rfl
theorem jk4{w b sep:List UInt8}(hw: ∀c∈w,Eb c=false∧HX c=false): ∀j,j<w.length→Lib.occAt (w++b) (32::sep) j=false:=fun j hj=>by
 cases h:Lib.occAt (w++b) (32::sep) j with
 |false=>rfl
 |true=>
  have:=Lib.occAt_head rfl h
  grind[List.getElem?_append_left,List.getElem?_eq_getElem,List.getElem_mem,Eb]
def Pq(s:List UInt8):List (List UInt8):=Lib.splitK [44,32] 0 (Lib.count s [44,32]) s
theorem Yh: ∀(k:Nat) (s:List UInt8),Bc (Lib.splitK [44,32] 0 k s)=s∧Lib.splitK [44,32] 0 k s≠[]
 |0,s=>⟨OR s,by simp[Lib.splitK]⟩
 |k+1,s=>by
  unfold Lib.splitK;split
  ·grind[OR]
  ·rename_i h
   obtain⟨h1,h2⟩:=Yh k (s.drop ((Lib.index s [44,32]).toNat+([44,32]:List UInt8).length))
   refine⟨?_,by simp⟩
   cases hl:Lib.splitK [44,32] 0 k (s.drop ((Lib.index s [44,32]).toNat+([44,32]:List UInt8).length))with
   |nil=>exact absurd hl h2
   |cons y r=>
    rw[hl]at h1
    rw[Na,h1]
    rcases Lib.index_spec s [44,32]with⟨e,_⟩|⟨i,e,e2,e3,_⟩
    ·grind
    ·rw[e]
     simp only[Int.toNat_natCast,Nat.add_zero];unfold Lib.occAt at e3;obtain⟨t,ht⟩:=List.isPrefixOf_iff_prefix.1 e3;have hd:s.drop (i+([44,32]:List UInt8).length)=t:=by grind[List.drop_drop,List.drop_left]
     simp_all
theorem XV(s:List UInt8):Bc (Pq s)=s:=(Yh _ s).1
theorem XA: ∀{l:List (List UInt8)},l≠[]→(∀w∈l,∀c∈w,Eb c=false∧HX c=false)→Pq (Bc l)=l
 |[],h,_=>absurd rfl h
 |[w],_,h=>by
  rw[OR]
  have:Lib.index w [44,32]= -1:=Lib.index_none fun j hj=>by
   cases ho:Lib.occAt w [44,32] j with
   |false=>rfl
   |true=>
    have h1:=Lib.occAt_head rfl ho;obtain⟨hj,h2⟩:=jzg.1 h1;have:=(h w (by simp) 44 (h2 ▸ AZ hj)).2
    exact absurd this (by decide)
  unfold Pq;rw[Lib.count_miss this];rfl
 |x::y::r,_,h=>by
  have ih:=XA (l:=y::r) (by simp) (by grind)
  have hi:Lib.index (Bc (x::y::r)) [44,32]=x.length:=by
   rw[Na]
   refine Lib.index_first (by simp) (by grind[Lib.occAt,List.drop_left]) fun j hj=> ?_
   cases ho:Lib.occAt (x++44::32::Bc (y::r)) [44,32] j with
   |false=>rfl
   |true=>
    have h1:=Lib.occAt_head rfl ho;rw[List.getElem?_append_left hj,AD hj]at h1;have:=(h x (by simp) _ (AZ hj)).2
    rw[Bi h1]at this
    exact absurd this (by decide)
  have hd:(Bc (x::y::r)).drop (x.length+([44,32]:List UInt8).length)=Bc (y::r):=by
   rw[Na,show x++44::32::Bc (y::r)=(x++[44,32])++Bc (y::r) by simp,show x.length+([44,32]:List UInt8).length=(x++[44,32]).length by simp,List.drop_left]
  unfold Pq at*;rw[Lib.count_hit (by simp) hi,hd,Nat.add_comm,Lib.splitK,hi,if_neg (by simp),Int.toNat_natCast,hd,ih,Na]
  simp
def Pn(m:Nat)(x:List UInt8):Option Nat:=(List.range m).find? fun n=>Lib.decDigits n==x
theorem jek{u v:Nat}(h:Lib.decDigits u=Lib.decDigits v):u=v:=by grind[Tk]
theorem numR_some{m n:Nat}{x:List UInt8}:Pn m x=some n↔n<m∧x=Lib.decDigits n:=by
 unfold Pn
 constructor
 ·grind
 ·rintro⟨h,rfl⟩
  cases hf:(List.range m).find? fun k=>Lib.decDigits k==Lib.decDigits n with
  |none=>
   have:=List.find?_eq_none.1 hf n (by grind)
   simp at this
  |some k=>
   grind[jek]
def Qq(m:Nat)(s:List UInt8):Option (List Int):=(Pq s).mapM fun x=>(Pn m x).map fun(n:Nat)=>(n:Int)
def OD(n:Int):List UInt8:=if n<0 then 45::Lib.decDigits n.natAbs else Lib.decDigits n.toNat
theorem mapM_num{m:Nat}: ∀{l:List (List UInt8)} {ns:List Int},l.mapM (fun x=>(Pn m x).map fun(n:Nat)=>(n:Int))=some ns↔l=ns.map OD∧ ∀n∈ns,0≤n∧n<m
 |[],ns=>by
  simp_all
 |x::l,ns=>by
  rw[List.mapM_cons]
  cases hx:Pn m x with
  |none=>
   simp only[Option.map_none,Option.bind_eq_bind,Option.bind_none,reduceCtorEq,false_iff];rintro⟨h,hn⟩;cases ns with
   |nil=>cases h
   |cons n ns=>
    obtain⟨h0,h1⟩:=hn n (by simp)
    simp only[List.map_cons,List.cons.injEq]at h;have:Pn m x=some n.toNat:=numR_some.2 (by simp_all[OD,if_neg])
    grind
  |some k=>
   obtain⟨hk,he⟩:=numR_some.1 hx
   simp only[Option.map_some,Option.bind_eq_bind,Option.bind_some,Option.pure_def];cases hl:l.mapM (fun x=>(Pn m x).map fun(n:Nat)=>(n:Int))with
   |none=>
    simp only[Option.bind_none,reduceCtorEq,false_iff];rintro⟨h,hn⟩;cases ns with
    |nil=>cases h
    |cons n ns=>
     simp only[List.map_cons,List.cons.injEq]at h;have:=(mapM_num (l:=l) (ns:=ns)).2 ⟨h.2,fun a ha=>hn a (by simp[ha])⟩
     grind
   |some r=>
    obtain⟨h1,h2⟩:=mapM_num.1 hl
    simp only[Option.bind_some,Option.some.injEq]
    constructor
    ·rintro rfl
     refine⟨by rw[List.map_cons,←h1,he];rfl,fun n hn=> ?_⟩
     grind
    ·rintro⟨h,hn⟩
     cases ns with
     |nil=>cases h
     |cons n ns=>
      simp only[List.map_cons,List.cons.injEq]at h;have hn0:=hn n (by simp)
      have e1:(k:Int)=n:=by
       have:=h.1
       rw[he]at this
       unfold OD at this;rw[if_neg (by omega)]at this
       grind[jek]
      have:=(mapM_num (l:=l) (ns:=ns)).2 ⟨h.2,fun a ha=>hn a (by simp[ha])⟩
      grind
theorem jmZ{n:Int}(h:0≤n): ∀c∈OD n,Eb c=false∧HX c=false:=fun c hc=>by
 unfold OD at hc;rw[if_neg (by omega)]at hc
 exact(RA (neg:=false) (by simpa using hc)).2
theorem fromR_iff{m:Nat}{s:List UInt8}{ns:List Int}:Qq m s=some ns↔ns≠[]∧s=Bc (ns.map OD)∧ ∀n∈ns,0≤n∧n<m:=by
 unfold Qq;rw[mapM_num]
 constructor
 ·rintro⟨h1,h2⟩
  have hj:=XV s;refine⟨fun e=> ?_,by rw[←h1,hj],h2⟩
  subst e;exact(Yh _ s).2 h1
 ·rintro⟨h0,rfl,h2⟩
  refine⟨XA (by simpa using h0) fun w hw=> ?_,h2⟩
  obtain⟨n,hn,rfl⟩:=jzk.1 hw
  grind[jmZ]
def Md(n:Int):Int:=if n=0 then 0 else if (rulT n).name=[] then -1 else (rulT n).count
def ruleR(w:List UInt8):Int:=match (List.range 28).find? fun(n:Nat)=>Bp ((n+1:Nat):Int)==w with
 |some n=>(n+1:Nat)
 |none=>0
theorem X0: ∀n<28,Pl (Bp (n+1:Nat)):=by
 unfold Pl
 decide+kernel
theorem Vx: ∀n<28,ruleR (Bp (n+1:Nat))=(n+1:Nat):=by decide+kernel
theorem jk2{w:List UInt8}(h:ruleR w≠0):Bp (ruleR w)=w∧1≤ruleR w∧ruleR w≤28:=by
 unfold ruleR at*
 grind
theorem QT{n:Int}(h:0≤n):A3 n=Lib.decDigits n.toNat:=by
 unfold A3 intW
 grind
theorem jbu{l:List Int}(h: ∀n∈l,0≤n):l.map OD=l.map A3:=(by simp_all[List.map_congr_left,QT,OD,if_neg])
def Dj(s p:List UInt8):Option (List UInt8):=if p.isPrefixOf s=true then some (s.drop p.length) else none
def LI(s p:List UInt8):Option (List UInt8):=if p.isSuffixOf s=true then some (s.take (s.length - p.length)) else none
theorem cutP_some{s p r:List UInt8}:Dj s p=some r↔s=p++r:=by
 unfold Dj;split
 ·rename_i h
  obtain⟨t,rfl⟩:=List.isPrefixOf_iff_prefix.1 h
  simp
 grind
theorem cutX_some{s p r:List UInt8}:LI s p=some r↔s=r++p:=by
 unfold LI;split
 ·rename_i h
  obtain⟨t,rfl⟩:=List.isSuffixOf_iff_suffix.1 h
  simp
 grind
def Fct.none0:Fct:=⟨0,[],false,[],[]⟩
def FrR.fct(r:FrR):Fct:=⟨r.kind,r.args,r.r.1,limbs r.r.2.1,limbs r.r.2.2⟩
def readF(ns:List ByteArray)(t:List UInt8):Fct×Bool:=
 let r:=H0 ns (Ch t)
 if r.err=0 then (r.fct,decide (wrong r.fct ns.length=0∧Bd r.fct ns=t)) else (.none0,false)
theorem jc8{ns:List ByteArray}{t:List UInt8}{f:Fct}(h:readF ns t=(f,true)):wrong f ns.length=0∧Bd f ns=t:=by
 unfold readF at h
 grind
theorem RS{f:Fct}{n:Int}(h:wrong f n=0):arity f.kind≠0∧f.args.length=arity f.kind∧(∀a∈f.args,0≤a∧a<n)∧(f.kind=9→CV f.neg f.abs f.den=true)∧(f.kind≠9→f.neg=false∧f.abs=[]∧f.den=[]):=by
 unfold wrong at h;by_cases h1:arity f.kind=0
 ·omega
 rw[if_neg h1]at h
 by_cases h2:f.args.length≠arity f.kind
 ·omega
 rw[if_neg h2]at h
 by_cases h3:f.args.any (fun a=>decide (a<0)||decide (n≤a))=true
 ·grind
 rw[if_neg h3]at h
 refine⟨h1,by omega,fun a ha=> ?_,fun h9=> ?_,fun h9=> ?_⟩
 ·grind
 ·grind
 simp_all[if_neg,DP,AR,Bool.not_eq_true',decide_eq_true_eq]
structure Fct.Small (f:Fct):Prop where
 oa:Ok f.abs
 od:Ok f.den
 la:(Lib.decDigits (val f.abs)).length≤1000
 ld:(Lib.decDigits (val f.den)).length≤1000
theorem jjA{ns:List ByteArray}{f:Fct}(hn:Mb ns)(hw:wrong f ns.length=0)(hf:f.Small)(hs:(Bd f ns).length≤20000):readF ns (Bd f ns)=(f,true):=by
 obtain⟨h1,h2,h3,h4,h5⟩:=RS hw
 have hP:=jf8 hn h1 h2 h3 hs fun h9=>by
  obtain⟨_,_,d0,g,hneg⟩:=Cz (h4 h9) hf.oa hf.od
  exact jgg hf.la hf.ld hneg d0 g
 unfold readF;simp only[hP];have he:(⟨f.kind,f.args,if f.kind=9 then (f.neg,val f.abs,val f.den) else (false,0,0),0,0⟩:FrR).fct=f:=by
  unfold FrR.fct;by_cases h9:f.kind=9
  ·obtain⟨e1,e2,_⟩:=Cz (h4 h9) hf.oa hf.od
   simp only[if_pos h9];rw[←e1,←e2]
  ·obtain⟨e1,e2,e3⟩:=h5 h9
   obtain⟨k,a,ng,ab,dn⟩:=f
   simp_all[if_neg,Cm]
 rw[he]
 simp[hw]
def Der.none:Der:=⟨.none0,0,[]⟩
def derR(ns:List ByteArray)(i:Nat)(s:List UInt8):Der×Bool:=
 match Dj s (A3 i++[46,32])with
 |none=>(.none,false)
 |some s=>match LI s [32,103,105,118,101,110]with
  |some t=>(⟨(readF ns t).1,0,[]⟩,(readF ns t).2)
  |none=>
   let c:=Lib.cut s [32,98,121,32]
   let d:=Lib.cut c.2.1 [32,102,114,111,109,32]
   if c.2.2=false then (.none,false) else
   if d.2.2=false∨ruleR d.1=0 then (.none,false) else
   match Qq i d.2.1 with
   |none=>(.none,false)
   |some l=>if (l.length:Int)≠Md (ruleR d.1) then (.none,false) else (⟨(readF ns c.1).1,ruleR d.1,l⟩,(readF ns c.1).2)
structure DerOk (ns:List ByteArray) (i:Nat) (x:Der):Prop where
 e:lineE ns.length x=0
 p:(x.frm.length:Int)=Md x.rule
 f: ∀a∈x.frm,0≤a∧a<i
theorem jkY{ns:List ByteArray}{i:Nat}{s:List UInt8}{x:Der}(h:derR ns i s=(x,true)):DerOk ns i x∧CI ns i x=s:=by
 unfold derR at h;split at h
 ·cases h
 rename_i s0 s1 h1
 have h1:=cutP_some.1 h1;split at h
 ·rename_i t h2
  have h2:=cutX_some.1 h2;simp only[Prod.mk.injEq]at h;obtain⟨rfl,h⟩:=h;obtain⟨w,p⟩:=jc8 (f:=(readF ns t).1) (Prod.ext rfl h);refine⟨⟨?_,rfl,(by simp)⟩,?_⟩
  ·simp_all[lineE,if_neg,Bp,decide]
  simp_all[CI,Cc,FD,if_pos]
 ·simp only at h;split at h
  ·cases h
  rename_i hc
  split at h
  ·cases h
  rename_i hd
  simp only[not_or,Bool.not_eq_false]at hc hd;obtain⟨hd,hr⟩:=hd;obtain⟨r1,r2,r3⟩:=jk2 hr;split at h
  ·cases h
  rename_i l hl
  split at h
  ·cases h
  rename_i hp
  simp only[Prod.mk.injEq]at h;obtain⟨rfl,h⟩:=h;obtain⟨w,p⟩:=jc8 (f:=(readF ns (Lib.cut s1 [32,98,121,32]).1).1) (Prod.ext rfl h);obtain⟨l0,l1,l2⟩:=fromR_iff.1 hl;have j1:=P8 hc;have j2:=P8 hd;refine⟨⟨?_,by simpa using hp,l2⟩,?_⟩
  ·unfold lineE;rw[if_neg]
   ·exact w
   ·intro e;simp only at e;have:=X0 ((ruleR (Lib.cut (Lib.cut s1 [32,98,121,32]).2.1 [32,102,114,111,109,32]).1).toNat - 1) (by omega)
    rw[show(((ruleR (Lib.cut (Lib.cut s1 [32,98,121,32]).2.1 [32,102,114,111,109,32]).1).toNat - 1+1:Nat):Int)=ruleR (Lib.cut (Lib.cut s1 [32,98,121,32]).2.1 [32,102,114,111,109,32]).1 by omega,e]at this
    exact this.1 rfl
  simp_all[CI,Cc,FD,if_neg,jbu,List.append_assoc]
theorem Xi{r:Int}(h:Bp r≠[]):0≤r∧r≤28:=by
 by_cases h0:0≤r∧r≤28
 ·exact h0
 ·refine absurd ?_ h;unfold Bp;rw[if_neg (by omega)]
  have:MW r.toNat=RRul.zero:=by
   unfold MW
   grind
  rw[this]
  rfl
theorem jh7{ns:List ByteArray}{i:Nat}{x:Der}(hn:Mb ns)(hx:DerOk ns i x)(hf:x.fact.Small)(hs:(Bd x.fact ns).length≤20000)(hp:x.rule≠0→x.frm≠[]):derR ns i (CI ns i x)=(x,true):=by
 obtain⟨e,p,f⟩:=hx
 unfold lineE at e;by_cases h0:Bp x.rule=[]
 ·grind
 rw[if_neg h0]at e
 have hF:=jjA hn e hf hs;obtain⟨w1,w2,w3,w4,w5⟩:=RS e;have hpl: ∀w∈DQ x.fact ns,Pl w:=fun w hw=>by
  rcases List.mem_append.1 hw with h|h
  ·obtain⟨a,ha',rfl⟩:=jzk.1 h
   obtain⟨a0,a1⟩:=w3 a ha'
   have hi:a.toNat<ns.length:=by omega
   unfold AN;rw[AL,AD hi];exact hn.1 _ (by simp)
  grind[Uu]
 have hok:Li (Bd x.fact ns)=true:=jgx (Uw w1) hpl
 unfold derR;have h1:Dj (CI ns i x) (A3 i++[46,32])=some (Cc ns x):=cutP_some.2 rfl;simp only[h1];obtain⟨fc,r,l⟩:=x;simp only at*;by_cases hr:r=0
 ·subst hr;have h2:LI (Cc ns ⟨fc,0,l⟩) [32,103,105,118,101,110]=some (Bd fc ns):=cutX_some.2 (by rfl)
  have hl:l=[]:=by
   have:(l.length:Int)=0:=p
   exact jzv.1 (by omega)
  grind
 ·obtain⟨r0,r1⟩:=Xi h0
  have hlN:=hp hr;obtain⟨a,l',hll⟩: ∃a l',l=l'++[a]:=⟨l.getLast hlN,l.dropLast,(List.dropLast_concat_getLast hlN).symm⟩;have ha:=f a (by rw[hll];simp)
  have hW:Cc ns ⟨fc,r,l⟩=Bd fc ns++([32,98,121,32]++(Bp r++([32,102,114,111,109,32]++Bc (l.map A3)))):=by
   simp_all[Cc,FD,if_neg,List.append_assoc]
  have hlast: ∃t c,Bc (l.map A3)=t++[c]∧KI c=true:=by
   have hd: ∃d c,A3 a=d++[c]∧KI c=true:=by
    rw[QT ha.1]
    exact⟨_,_,(List.dropLast_concat_getLast (RI _)).symm,UV (List.getLast_mem _)⟩
   obtain⟨d,c,hd,hc⟩:=hd
   have: ∀(L:List (List UInt8)) (y:List UInt8),∃t,Bc (L++[y])=t++y:=fun L=>by
    induction L with
    |nil=>simp_all[OR]
    |cons z L ih=>
     intro y;obtain⟨t,ht⟩:=ih y;cases L with
     |nil=>exact⟨z++[44,32],by rw[List.cons_append,List.nil_append,Na,OR];simp⟩
     |cons z' L=>grind[Na]
   obtain⟨t,ht⟩:=this (l'.map A3) (A3 a)
   grind
  have h2:LI (Cc ns ⟨fc,r,l⟩) [32,103,105,118,101,110]=none:=by
   cases hx:LI (Cc ns ⟨fc,r,l⟩) [32,103,105,118,101,110]with
   |none=>rfl
   |some t=>
    have:=cutX_some.1 hx
    obtain⟨t',c,ht,hc⟩:=hlast
    rw[hW,ht]at this
    have:=congrArg List.getLast? this
    simp only[←List.append_assoc,List.getLast?_append,List.getLast?_singleton]at this;have e:c=110:=by simpa using this
    subst e;exact absurd hc (by decide)
  have hname:Pl (Bp r)∧ruleR (Bp r)=r:=by
   have q:=X0 (r.toNat - 1) (by omega)
   have q2:=Vx (r.toNat - 1) (by omega)
   rw[show((r.toNat - 1+1:Nat):Int)=r by omega]at q q2
   exact⟨q,q2⟩
  have c1:Lib.cut (Cc ns ⟨fc,r,l⟩) [32,98,121,32]=(Bd fc ns,Bp r++([32,102,114,111,109,32]++Bc (l.map A3)),true):=by
   rw[hW]
   exact WE fun j hj=>jdG (v:=[98,121]) (by decide) _ hok j hj
  have c2:Lib.cut (Bp r++([32,102,114,111,109,32]++Bc (l.map A3))) [32,102,114,111,109,32]=(Bp r,Bc (l.map A3),true):=
   WE fun j hj=>jk4 hname.1.2 j hj
  have h3:Qq i (Bc (l.map A3))=some l:=fromR_iff.2 (by grind[jbu])
  grind
def UK(ns:List ByteArray)(l:List (List UInt8)):Option (List Int):=l.mapM fun x=>(F2 (Ch x) ns).map fun(n:Nat)=>(n:Int)
def OE(ns:List ByteArray)(k:Int)(t:List UInt8):Option Grd:=
 match LI t [41]with
 |none=>none
 |some u=>if ((Pq u).length:Int)≠grdN k then none else (UK ns (Pq u)).map fun l=>⟨k,l⟩
def Nw(ns:List ByteArray)(s:List UInt8):Option Grd:=
 match Dj s (A7 1++[40])with
 |some t=>OE ns 1 t
 |none=>match Dj s (A7 2++[40])with
  |some t=>OE ns 2 t
  |none=>match Dj s (A7 3++[40])with
   |some t=>OE ns 3 t
   |none=>none
theorem ZE{x:ByteArray}: ∀{ns:List ByteArray} {i:Nat},F2 x ns=some i→i<ns.length∧ns[i]? =some x
 |y::l,i,h=>by
  unfold F2 at h;split at h
  ·grind
  ·cases hl:F2 x l with
   |none=>grind
   |some j=>
    rw[hl]at h
    cases h;obtain⟨h1,h2⟩:=ZE hl
    grind
theorem X8{ns:List ByteArray}(hn:ns.Nodup): ∀{l:List (List UInt8)} {al:List Int},UK ns l=some al↔l=al.map (AN ns)∧ ∀a∈al,0≤a∧a<ns.length
 |[],al=>by
  unfold UK
  simp_all
 |x::l,al=>by
  have ih:=fun al=>X8 hn (l:=l) (al:=al)
  have nb: ∀i,i<ns.length→AN ns (i:Int)=x→F2 (Ch x) ns=some i:=fun i hi e=>by
   unfold AN at e;rw[Int.toNat_natCast,AL,AD hi]at e;have:Ch x=ns[i]:=by rw[←e];rfl
   grind[Yj]
  have bn: ∀i,F2 (Ch x) ns=some i→i<ns.length∧AN ns (i:Int)=x:=fun i hi=>by
   obtain⟨h1,h2⟩:=ZE hi
   refine⟨h1,?_⟩
   unfold AN;rw[Int.toNat_natCast,AL,h2];rfl
  unfold UK at*;rw[List.mapM_cons]
  constructor
  ·intro h;cases hx:F2 (Ch x) ns with
   |none=>grind
   |some k=>
    rw[hx]at h
    cases hl:l.mapM (fun x=>(F2 (Ch x) ns).map fun(n:Nat)=>(n:Int))with
    |none=>grind
    |some r=>
     grind
  ·rintro⟨h,hn'⟩
   cases al with
   |nil=>cases h
   |cons a al=>
    simp only[List.map_cons,List.cons.injEq]at h;obtain⟨a0,a1⟩:=hn' a (by simp)
    rw[nb a.toNat (by omega) (by grind),(ih al).2 (by grind)]
    simp
    omega
theorem Xc{ns:List ByteArray}(hn:ns.Nodup){k:Int}{t:List UInt8}{g:Grd}(h:OE ns k t=some g)(hk:k=1∨k=2∨k=3):errG ns.length g=0∧A7 k++[40]++t=Bq ns g:=by
 unfold OE at h;split at h
 ·cases h
 rename_i u hu
 have hu:=cutX_some.1 hu;split at h
 ·cases h
 rename_i hl
 rw[jze]at h
 obtain⟨al,ha,rfl⟩:=h
 obtain⟨h1,h2⟩:=(X8 hn).1 ha
 have hj:=XV u;rw[h1]at hj hl
 constructor
 ·unfold errG;have:(al.map (AN ns)).length=al.length:=by simp
  have hk':grdN k≠ -1:=by omega
  simp_all[if_neg,List.any_eq_true,not_exists,not_and,Bool.not_eq_true,Di,Bool.or_eq_false_iff,decide_eq_false_iff_not]
 grind[Bq]
theorem jjz{ns:List ByteArray}(hn:ns.Nodup){s:List UInt8}{g:Grd}(h:Nw ns s=some g):errG ns.length g=0∧Bq ns g=s:=by
 unfold Nw at h;split at h
 ·rename_i t ht
  obtain⟨h1,h2⟩:=Xc hn h (by simp)
  exact⟨h1,by rw[←h2,cutP_some.1 ht]⟩
 split at h
 ·rename_i t ht
  obtain⟨h1,h2⟩:=Xc hn h (by simp)
  exact⟨h1,by rw[←h2,cutP_some.1 ht]⟩
 split at h
 ·rename_i t ht
  obtain⟨h1,h2⟩:=Xc hn h (by simp)
  exact⟨h1,by rw[←h2,cutP_some.1 ht]⟩
 ·cases h
theorem jlr{ns:List ByteArray}(hn:Mb ns){g:Grd}(h:errG ns.length g=0):Nw ns (Bq ns g)=some g:=by
 obtain⟨k,al⟩:=g
 unfold errG at h;simp only at h;by_cases h1:grdN k= -1
 ·omega
 rw[if_neg h1]at h
 by_cases h2:(al.length:Int)≠grdN k
 ·omega
 rw[if_neg h2]at h
 by_cases h3:al.any (Di ns.length)=true
 ·grind
 have ha: ∀a∈al,0≤a∧a<ns.length:=(by grind[Di])
 have hpl: ∀w∈al.map (AN ns),Pl w:=fun w hw=>by
  obtain⟨a,ha',rfl⟩:=jzk.1 hw
  obtain⟨a0,a1⟩:=ha a ha'
  have hi:a.toNat<ns.length:=by omega
  unfold AN;rw[AL,AD hi];exact hn.1 _ (by simp)
 have hne:al.map (AN ns)≠[]:=(by grind[grdN,List.length_nil])
 have key:OE ns k (Bc (al.map (AN ns))++[41])=some ⟨k,al⟩:=by
  unfold OE;rw[cutX_some.2 rfl];simp only;rw[XA hne fun w hw=>(hpl w hw).2,if_neg (by simpa using h2),(X8 hn.2).2 ⟨rfl,ha⟩]
  rfl
 have hW:Bq ns ⟨k,al⟩=A7 k++[40]++(Bc (al.map (AN ns))++[41]):=by
  grind[Bq]
 have hk:k=1∨k=2∨k=3:=by
  grind[grdN]
 have no: ∀(a b:List UInt8) (t:List UInt8),(∃n,n<a.length∧n<b.length∧a[n]? ≠b[n]?)→Dj (a++t) b=none:=fun a b t ⟨n,n1,n2,n3⟩=>by
  cases hc:Dj (a++t) b with
  |none=>rfl
  |some u=>
   have:=congrArg (·[n]?) (cutP_some.1 hc)
   grind
 unfold Nw;rw[hW];rcases hk with rfl|rfl|rfl
 ·rw[cutP_some.2 rfl]
  exact key
 ·rw[no (A7 2++[40]) (A7 1++[40]) _ ⟨0,by decide⟩,cutP_some.2 rfl]
  exact key
 ·rw[no (A7 3++[40]) (A7 1++[40]) _ ⟨0,by decide⟩,no (A7 3++[40]) (A7 2++[40]) _ ⟨0,by decide⟩,cutP_some.2 rfl]
  exact key
theorem Vk{s sep:List UInt8}(h0:sep≠[])(h:(Lib.cut s sep).2.2=true):(Lib.cut s sep).2.1.length<s.length:=by
 have:=congrArg List.length (P8 h)
 simp only[List.length_append]at this;have:=List.length_pos_iff.2 h0;omega
def KQ(ns:List ByteArray)(ds:List Der)(gs:List Grd)(n:Int)(s:List UInt8):List Der×List Grd×Int×Int:=
 if s=[] then (ds,gs,0,0) else
 if h:(Lib.cut s [10]).2.2=true then
  match Dj (Lib.cut s [10]).1 [105,102,32]with
  |some t=>match Nw ns t with
   |none=>([],[],n,9)
   |some g=>KQ ns ds (gs++[g]) (n+1) (Lib.cut s [10]).2.1
  |none=>if (derR ns ds.length (Lib.cut s [10]).1).2=false∨gs≠[] then ([],[],n,9) else KQ ns (ds++[(derR ns ds.length (Lib.cut s [10]).1).1]) gs (n+1) (Lib.cut s [10]).2.1
 else ([],[],n,10)
termination_by s.length
decreasing_by all_goals simp_all[Vk]
def Lr(ns:List ByteArray):Nat→List Der→List UInt8
 |_,[]=>[]
 |i,x::r=>CI ns i x++[10]++Lr ns (i+1) r
def K6(ns:List ByteArray)(gs:List Grd):List UInt8:=gs.flatMap fun g=>[105,102,32]++Bq ns g++[10]
theorem jfh(ns:List ByteArray): ∀(ds:List Der) (i:Nat),((ds.zipIdx i).flatMap fun p=>CI ns p.2 p.1++[10])=Lr ns i ds
 |[],_=>rfl
 |x::r,i=>by
  rw[List.zipIdx_cons,List.flatMap_cons,jfh ns r (i+1)]
  rfl
theorem Th(ns:List ByteArray)(ds:List Der)(gs:List Grd):C4 ns ds gs=Lr ns 0 ds++K6 ns gs:=by
 grind[C4,A1,Bn,K6,List.take_length,jfh]
theorem ZC(ns:List ByteArray)(x:Der): ∀(ds:List Der) (i:Nat),Lr ns i (ds++[x])=Lr ns i ds++(CI ns (i+ds.length) x++[10])
 |[],i=>by simp[Lr]
 |y::r,i=>by
  rw[List.cons_append,Lr,ZC ns x r (i+1),Lr,List.append_assoc,List.append_assoc,List.append_assoc,show i+1+r.length=i+(y::r).length by grind]
theorem jlH(ns:List ByteArray)(g:Grd)(gs:List Grd):K6 ns (gs++[g])=K6 ns gs++([105,102,32]++Bq ns g++[10]):=by
 grind[K6]
def DersOk(ns:List ByteArray)(ds:List Der):Prop:= ∀i x,ds[i]? =some x→DerOk ns i x
theorem DersOk.snoc{ns:List ByteArray}{ds:List Der}(h:DersOk ns ds){x:Der}(hx:DerOk ns ds.length x):DersOk ns (ds++[x]):=fun i y hy=>by
 by_cases hi:i<ds.length
 ·rw[List.getElem?_append_left hi]at hy
  exact h i y hy
 grind
theorem jmN{ns:List ByteArray}(hn:ns.Nodup){ds:List Der}{gs:List Grd}{n:Int}{s:List UInt8}(hd:DersOk ns ds)(hg: ∀g∈gs,errG ns.length g=0){ds':List Der}{gs':List Grd}{m:Int}
  (h:KQ ns ds gs n s=(ds',gs',m,0)):DersOk ns ds'∧(∀g∈gs',errG ns.length g=0)∧C4 ns ds' gs'=C4 ns ds gs++s∧ds'.length≤ds.length+s.length∧gs'.length≤gs.length+s.length:=by
 induction hk:s.length using Nat.strongRecOn generalizing ds gs n s with
 |ind k ih=>
  rw[KQ]at h
  split at h
  ·grind
  split at h
  ·rename_i h0 hc
   have hj:=P8 hc;have hlt:=Vk (by simp) hc
   split at h
   ·rename_i t ht
    have ht:=cutP_some.1 ht;split at h
    ·simp at h
    ·rename_i g hgr
     obtain⟨g1,g2⟩:=jjz hn hgr
     obtain⟨i1,i2,i3,i4,i5⟩:=ih _ (by omega) hd (by grind) h rfl
     refine⟨i1,i2,?_,by omega,by rw[List.length_append,List.length_singleton]at i5;omega⟩
     rw[i3,Th,Th,jlH,g2,←ht]
     simp only[List.append_assoc];rw[hj]
   ·split at h
    ·simp at h
    ·rename_i hx
     simp only[not_or,Bool.not_eq_false,ne_eq,Classical.not_not]at hx;obtain⟨hx,rfl⟩:=hx;obtain⟨d1,d2⟩:=jkY (x:=(derR ns ds.length (Lib.cut s [10]).1).1) (Prod.ext rfl hx);obtain⟨i1,i2,i3,i4,i5⟩:=ih _ (by omega) (hd.snoc d1) hg h rfl
     refine⟨i1,i2,?_,by rw[List.length_append,List.length_singleton]at i4;omega,by omega⟩
     simp_all[Th,ZC,Nat.zero_add,K6,List.flatMap_nil,List.append_nil,List.append_assoc]
  ·simp at h
def noNl(l:List UInt8):Prop:= ∀c∈l,c≠10
theorem noNl.app{a b:List UInt8}(ha:noNl a)(hb:noNl b):noNl (a++b):=fun c hc=>by
 rcases List.mem_append.1 hc with h|h
 ·exact ha c h
 ·exact hb c h
theorem jjN{ns:List ByteArray}(hn:Mb ns){f:Fct}(ha: ∀a∈f.args,0≤a∧a<ns.length): ∀w∈DQ f ns,Pl w:=fun w hw=>by
 rcases List.mem_append.1 hw with h|h
 ·obtain⟨a,ha',rfl⟩:=jzk.1 h
  obtain⟨a0,a1⟩:=ha a ha'
  have hi:a.toNat<ns.length:=by omega
  unfold AN;rw[AL,AD hi];exact hn.1 _ (by simp)
 grind[Uu]
end Go.Va
