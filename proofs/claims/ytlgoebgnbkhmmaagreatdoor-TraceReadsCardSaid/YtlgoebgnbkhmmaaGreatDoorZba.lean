/- a part of the proof -/
import Derived.Test.YtlgoebgnbkhmmaaGreatDoorZaz
set_option linter.all false
namespace Go.Va
open Go
def Eb(c:UInt8):Bool:=c==32||c==9||c==13||c==10
def HX(c:UInt8):Bool:=c==40||c==41||c==44
def cw(w:List UInt8):List (List UInt8):=if w=[] then [] else [w]
def H3:List UInt8→List UInt8→List (List UInt8)
 |w,[]=>cw w
 |w,c::r=>if Eb c then cw w++H3 [] r else if HX c then cw w++[c]::H3 [] r else H3 (w++[c]) r
def Pl(w:List UInt8):Prop:=w≠[]∧ ∀c∈w,Eb c=false∧HX c=false
theorem jbK: ∀(w v r:List UInt8),(∀c∈w,Eb c=false∧HX c=false)→H3 v (w++r)=H3 (v++w) r
 |[],v,r,_=>by simp
 |c::w,v,r,h=>by
  obtain⟨h1,h2⟩:=h c (by simp)
  rw[List.cons_append,H3,h1,h2]
  simp only[Bool.false_eq_true,if_false];rw[jbK w (v++[c]) r (by grind)]
  simp
theorem W1{w r:List UInt8}{c:UInt8}(hw:Pl w)(h1:Eb c=false)(h2:HX c=true):H3 [] (w++c::r)=w::[c]::H3 [] r:=by
 rw[jbK w [] _ hw.2,List.nil_append,H3,h1,h2]
 simp[cw,hw.1]
theorem jiH{w r:List UInt8}(hw:Pl w):H3 [] (w++44::32::r)=w::[44]::H3 [] r:=by
 rw[W1 hw (by decide) (by decide),H3]
 simp[Eb,cw]
def K2:List (List UInt8)→List (List UInt8)
 |[]=>[]
 |[w]=>[w]
 |w::r=>w::[44]::K2 r
theorem Na(x y:List UInt8)(r:List (List UInt8)):Bc (x::y::r)=x++44::32::Bc (y::r):=by
 rfl
theorem OR(x:List UInt8):Bc [x]=x:=by
 grind[Bc,Lib.join_cons,Lib.joinTail]
theorem jdg: ∀(l:List (List UInt8)),l≠[]→(∀w∈l,Pl w)→H3 [] (Bc l++[41])=K2 l++[[41]]
 |[],h,_=>absurd rfl h
 |[w],_,h=>by
  rw[OR,W1 (h w (by simp)) (by decide) (by decide)]
  rfl
 |x::y::r,_,h=>by
  rw[Na,List.append_assoc,List.cons_append,List.cons_append,jiH (h x (by simp)),jdg (y::r) (by simp) (by grind)]
  rfl
theorem jly{w:List UInt8}{l:List (List UInt8)}(hw:Pl w)(hl:l≠[])(h: ∀w∈l,Pl w):H3 [] (w++[40]++Bc l++[41])=w::[40]::(K2 l++[[41]]):=by
 rw[List.append_assoc,List.append_assoc,List.singleton_append,W1 hw (by decide) (by decide),jdg l hl h]
structure Sp where
 f:Int
 l:List ByteArray
 p:List Int
def Sp.go(s:ByteArray)(i:Nat)(sp sg:Bool)(x:Sp):Sp:=
 let y:Sp:=if (sp||sg)=true∧0≤x.f then ⟨-1,x.l++[s.extract x.f.toNat i],x.p++[x.f]⟩ else x
 if sg=true then ⟨y.f,y.l++[s.extract i (i+1)],y.p++[(i:Int)]⟩ else if sp=false∧y.f<0 then ⟨i,y.l,y.p⟩ else y
def NW(s:ByteArray)(i:Nat):Bool:=match (B s)[i]? with|some c=>Eb c|none=>true
def O5(s:ByteArray)(i:Nat):Bool:=match (B s)[i]? with|some c=> !Eb c&&HX c|none=>false
def splS(s:ByteArray):Nat→Sp
 |0=>⟨-1,[],[]⟩
 |i+1=>(splS s i).go s i (NW s i) (O5 s i)
theorem UE(s:ByteArray): ∀i,(splS s i).l.length=(splS s i).p.length
 |0=>rfl
 |i+1=>by
  have:=UE s i
  grind[splS,Sp.go]
def Sp.cur(s:ByteArray)(i:Nat)(x:Sp):List UInt8:=if x.f<0 then [] else B (s.extract x.f.toNat i)
theorem Mq(s:ByteArray)(a b:Nat):B (s.extract a b)=((B s).take b).drop a:=by
 grind[B,ByteArray.data_extract,Array.toList_extract,List.extract_eq_take_drop,List.drop_take]
theorem jcR{l:List UInt8}{f i:Nat}(hf:f≤i)(h:i<l.length):(l.take (i+1)).drop f=(l.take i).drop f++[l[i]]:=by
 grind[List.take_succ_eq_append_getElem,List.length_take]
theorem jdB(s:ByteArray): ∀i,i≤(B s).length→(splS s i).f<i∧(splS s i).l.map B++H3 ((splS s i).cur s i) ((B s).drop i)=H3 [] (B s)
 |0,_=>by simp[splS,Sp.cur]
 |i+1,h=>by
  obtain⟨h0,h1⟩:=jdB s i (by omega)
  have hi:i<(B s).length:=by omega
  have hg:(B s)[i]? =some (B s)[i]:=(by simp)
  have e1:NW s i=Eb (B s)[i]:=by grind[NW]
  have e2:O5 s i=(!Eb (B s)[i]&&HX (B s)[i]):=by grind[O5]
  rw[BQ hi,H3]at h1
  rw[←h1]
  simp only[splS,e1,e2];have hne: ∀f:Nat,f<i→((B s).take i).drop f≠[]:=fun f hf hn=>by
   have:=congrArg List.length hn
   simp at this;omega
  generalize hx:splS s i=x at*;obtain⟨f,l,p⟩:=x;simp only at h0;have h1s:B (s.extract i (i+1))=[(B s)[i]]:=by
   simp_all[Mq,jcR,AO]
  by_cases hf:f<0
  ·grind[Eb,B,HX,Sp.go,Sp.cur,cw]
  ·have hf':0≤f:=by omega
   obtain⟨n,rfl⟩:=Int.eq_ofNat_of_zero_le hf'
   grind[B,Mq,jcR,Eb,HX,Sp.go,Sp.cur,cw]
theorem jdC(s:ByteArray):(splS s (s.size+1)).l.map B=H3 [] (B s):=by
 have hl:(B s).length=s.size:=by simp[B]
 obtain⟨h0,h1⟩:=jdB s s.size (by omega)
 rw[DU (by omega),H3]at h1
 rw[←h1]
 have hg:(B s)[s.size]? =none:=(by grind)
 have e1:NW s s.size=true:=by grind[NW]
 have e2:O5 s s.size=false:=by grind[O5]
 simp only[splS,e1,e2];generalize splS s s.size=x at*;obtain⟨f,l,p⟩:=x;by_cases hf:f<0
 ·grind[Sp.go,Sp.cur,cw]
 ·have hf':0≤f:=by omega
  obtain⟨n,rfl⟩:=Int.eq_ofNat_of_zero_le hf'
  have hn:n<s.size:=by grind
  have hB:B (s.extract n s.size)≠[]:=by
   simp_all[Mq,congrArg,List.length]
  grind[Sp.go,Sp.cur,cw]
def KI(c:UInt8):Bool:=48≤c.toNat&&c.toNat≤57
def valB(l:List UInt8):Nat:=l.foldl (fun n c=>n*10+(c.toNat - 48)) 0
def natR(l:List UInt8):Nat×Int:=
 if l=[] then (0,10) else if 1000<l.length then (0,4) else if 1<l.length∧l.head? =some 48 then (0,9) else if l.all KI=true then (valB l,0) else (0,9)
def intR(l:List UInt8):Bool×Nat×Int:=
 let neg:=decide (l.head? =some 45)
 let d:=natR (if neg=true then l.tail else l)
 if d.2≠0 then (false,0,d.2) else if neg=true∧d.1=0 then (false,0,9) else (neg,d.1,0)
def O7(neg:Bool)(m d:Nat):Bool×Nat×Nat×Int:=(sg neg m,m/Nat.gcd m d,d/Nat.gcd m d,0)
def Oj(p:List UInt8)(r:Option (List UInt8)):Bool×Nat×Nat×Int:=
 if (intR p).2.2≠0 then (false,0,0,(intR p).2.2) else
 match r with
 |none=>O7 (intR p).1 (intR p).2.1 1
 |some q=>if (natR q).2≠0 then (false,0,0,(natR q).2) else if (natR q).1=0 then (false,0,0,3) else O7 (intR p).1 (intR p).2.1 (natR q).1
theorem RI(u:Nat):Lib.decDigits u≠[]:=by
 rw[Lib.decDigits]
 split<;>simp
theorem jd4{r:Nat}(h:r<10):KI (UInt8.ofNat (48+r))=true∧(UInt8.ofNat (48+r)).toNat - 48=r∧(UInt8.ofNat (48+r)=48↔r=0):=by
 have:r=0∨r=1∨r=2∨r=3∨r=4∨r=5∨r=6∨r=7∨r=8∨r=9:=by omega
 rcases this with rfl|rfl|rfl|rfl|rfl|rfl|rfl|rfl|rfl|rfl<;>decide
theorem Tk(u:Nat):(Lib.decDigits u).all KI=true∧valB (Lib.decDigits u)=u∧(u≠0→(Lib.decDigits u).head? ≠some 48):=by
 induction u using Nat.strongRecOn with
 |ind u ih=>
  rw[Lib.decDigits]
  split
  ·rename_i h
   obtain⟨h1,h2,h3⟩:=jd4 h
   simp_all[UInt8.ofNat,valB,List.head?_cons,ne_eq,Option.some.injEq]
  grind[jd4,UInt8.ofNat,valB,RI,Lib.decDigits,absurd]
theorem X9{u:Nat}(h:(Lib.decDigits u).length≤1000):natR (Lib.decDigits u)=(u,0):=by
 obtain⟨h1,h2,h3⟩:=Tk u
 have hne:=RI u;unfold natR;rw[if_neg hne,if_neg (by omega),if_neg,if_pos h1,h2]
 grind[Lib.decDigits]
theorem ZJ(u:Nat):(Lib.decDigits u).head? ≠some 45:=by
 obtain⟨h1,h2,h3⟩:=Tk u
 cases hd:Lib.decDigits u with
 |nil=>simp
 |cons a r=>
  rw[hd]at h1
  simp only[List.all_cons,AR]at h1;intro h;simp only[List.head?_cons,Option.some.injEq]at h;subst h;exact absurd h1.1 (by decide)
theorem jfF{neg:Bool}{u:Nat}(h:(Lib.decDigits u).length≤1000)(hn:neg=true→u≠0):intR ((if neg=true then [45] else [])++Lib.decDigits u)=(neg,u,0):=by
 cases neg with
 |false=>simp[intR,ZJ,X9 h]
 |true=>simp[intR,X9 h,hn rfl]
theorem jds{neg:Bool}{m d:Nat}(hn:neg=true→m≠0)(g:Nat.gcd m d=1):O7 neg m d=(neg,m,d,0):=by
 unfold O7 sg;rw[g,Nat.div_one,Nat.div_one];cases neg with
 |false=>rfl
 |true=>
  have:=hn rfl
  simp
  omega
theorem jlX{neg:Bool}{m:Nat}(hm:(Lib.decDigits m).length≤1000)(hn:neg=true→m≠0):
  Oj ((if neg=true then [45] else [])++Lib.decDigits m) none=(neg,m,1,0):=by
 simp_all[Oj,jfF,jds,Nat.gcd_one_right]
theorem jlT{neg:Bool}{m d:Nat}(hm:(Lib.decDigits m).length≤1000)(hd:(Lib.decDigits d).length≤1000)(hn:neg=true→m≠0)(d0:d≠0)(g:Nat.gcd m d=1):
  Oj ((if neg=true then [45] else [])++Lib.decDigits m) (some (Lib.decDigits d))=(neg,m,d,0):=by
 simp_all[Oj,jfF,X9,jds]
structure Ps where
 l:List ByteArray
 p:List Int
 e:Int
 a:Int
 r:Int
def Ps.fail(s:Ps)(x:Int):Ps:=if s.r=0 then { s with a:=s.p.headD s.e,r:=x } else s
def Ps.nx(s:Ps):Option ByteArray:=if s.r=0 then s.l.head? else none
def Ps.pass(s:Ps):Ps:={ s with l:=s.l.tail,p:=s.p.tail }
def Ps.must(s:Ps)(t:List UInt8):Ps:=if s.nx=some (Ch t) then s.pass else s.fail 5
def signs:List (List UInt8):=[[40],[41],[44]]
def Ps.word(s:Ps):Option ByteArray:=s.nx.bind fun w=>if signs.contains (B w)=true then none else some w
def F2(x:ByteArray):List ByteArray→Option Nat
 |[]=>none
 |y::l=>if y=x then some 0 else (F2 x l).map (· +1)
def Ps.point(ns:List ByteArray)(s:Ps):Int×Ps:=match s.word with
 |none=>(0,s.fail 5)
 |some w=>match F2 w ns with
  |some i=>(i,s.pass)
  |none=>(0,s.fail 6)
def Pz(w:List UInt8):Int:=if w=By 1 then 1 else if w=By 2 then 2 else if w=By 3 then 3 else if w=By 4 then 4 else if w=By 5 then 5 else if w=By 6 then 6 else if w=By 7 then 7 else if w=By 8 then 8 else if w=By 9 then 9 else 0
def Ps.kind(s:Ps):Int×Ps:=match s.word with
 |none=>(0,s.fail 5)
 |some w=>if Pz (B w)=0 then (0,s.fail 5) else (Pz (B w),s.pass)
def LW:List UInt8→List UInt8×Option (List UInt8)
 |[]=>([],none)
 |c::r=>if c=47 then ([],some r) else ((c::(LW r).1),(LW r).2)
def M8(w:List UInt8):Bool×Nat×Nat×Int:=Oj (LW w).1 (LW w).2
theorem jdZ: ∀{l:List UInt8},(∀c∈l,c≠47)→LW l=(l,none)
 |[],_=>rfl
 |c::r,h=>by
  rw[LW,if_neg (h c (by simp)),jdZ (by grind)]
theorem jfV: ∀{l r:List UInt8},(∀c∈l,c≠47)→LW (l++47::r)=(l,some r)
 |[],r,_=>by simp[LW]
 |c::l,r,h=>by
  rw[List.cons_append,LW,if_neg (h c (by simp)),jfV (by grind)]
theorem UV{u:Nat}{c:UInt8}(h:c∈Lib.decDigits u):KI c=true:=(by grind[Tk])
theorem RA{neg:Bool}{u:Nat}{c:UInt8}(h:c∈(if neg=true then [45] else [])++Lib.decDigits u):c≠47∧Eb c=false∧HX c=false:=by
 rcases List.mem_append.1 h with h|h
 ·split at h
  ·simp at h;subst h;decide
  ·cases h
 ·have:=UV h
  unfold KI at this;simp only[AR,decide_eq_true_eq]at this;have e: ∀k:UInt8,c=k→c.toNat=k.toNat:=(by simp)
  have n: ∀k:UInt8,(k.toNat<48∨57<k.toNat)→(c==k)=false:=(by grind)
  refine⟨fun q=> ?_,?_,?_⟩
  ·simp_all
  ·unfold Eb;simp_all
  ·unfold HX;simp_all
theorem jgg{neg:Bool}{m d:Nat}(hm:(Lib.decDigits m).length≤1000)(hd:(Lib.decDigits d).length≤1000)(hn:neg=true→m≠0)(d0:d≠0)(g:Nat.gcd m d=1):M8 (BL neg m d)=(neg,m,d,0):=by
 unfold M8 BL;by_cases d1:d=1
 ·subst d1;rw[if_pos rfl,List.append_nil,jdZ fun c hc=>(RA hc).1]
  exact jlX hm hn
 ·rw[if_neg d1,←List.append_assoc,jfV fun c hc=>(RA hc).1]
  grind[jlT]
theorem Uu{neg:Bool}{m d:Nat}:Pl (BL neg m d):=by
 unfold BL;refine⟨fun h=> ?_,fun c hc=> ?_⟩
 ·simp_all[RI]
 ·rw[←List.append_assoc]at hc
  rcases List.mem_append.1 hc with hc|hc
  ·exact(RA hc).2
  ·split at hc
   ·cases hc
   ·rcases jzn.1 hc with rfl|hc
    ·decide
    ·exact(RA (neg:=false) (by simpa using hc)).2
def Ps.num(s:Ps):(Bool×Nat×Nat)×Ps:=match s.word with
 |none=>((false,0,0),s.fail 5)
 |some w=>let r:=M8 (B w)
  if r.2.2.2=0 then ((r.1,r.2.1,r.2.2.1),s.pass) else ((false,0,0),s.fail r.2.2.2)
def KY(k:Int)(ns:List ByteArray):Nat→Nat→List Int→Ps→List Int×Ps
 |0,_,l,s=>(l,s)
 |n+1,i,l,s=>if s.r≠0 then (l,s) else if k=7∧i=6∧s.nx=some (Ch [41]) then (l,s) else
  let t:=(if i=0 then s else s.must [44]).point ns
  KY k ns n (i+1) (l++[t.1]) t.2
def psOf(s:ByteArray):Ps:=⟨(splS s (s.size+1)).l,(splS s (s.size+1)).p,s.size,0,0⟩
def wide:List Int→List Int
 |[a,b,c,d,e,f]=>[b,a,b,c,e,d,e,f]
 |l=>l
structure FrR where
 kind:Int
 args:List Int
 r:Bool×Nat×Nat
 at_:Int
 err:Int
def H0(ns:List ByteArray)(s:ByteArray):FrR:=
 if 20000<s.size then ⟨0,[],(false,0,0),0,4⟩ else
 let k:=(psOf s).kind
 let a:=KY k.1 ns (arity k.1) 0 [] (k.2.must [40])
 let q:=if k.1=9 then (a.2.must [44]).num else ((false,0,0),a.2)
 let s1:=q.2.must [41]
 let s2:=if s1.nx.isSome then s1.fail 5 else s1
 if s2.r=0 then ⟨k.1,wide a.1,q.1,0,0⟩ else ⟨0,[],(false,0,0),s2.a,s2.r⟩
def Mb(ns:List ByteArray):Prop:=(∀s∈ns,Pl (B s))∧ns.Nodup
theorem Yj{ns:List ByteArray}(h:ns.Nodup): ∀{i:Nat} (hi:i<ns.length),F2 ns[i] ns=some i:=by
 induction ns with
 |nil=>simp
 |cons y l ih=>
  grind[hi,F2,List.getElem_mem]
theorem jav(s:ByteArray):Ch (B s)=s:=rfl
theorem T9{a b:ByteArray}(h:B a=B b):a=b:=by grind[jav]
theorem Ps.word_eq{s:Ps}{w:ByteArray}{l:List ByteArray}(h0:s.r=0)(hl:s.l=w::l)(hw:Pl (B w)):s.word=some w:=by
 unfold Ps.word Ps.nx;rw[if_pos h0,hl];simp only[List.head?_cons,Option.bind_some];rw[if_neg];intro hc;simp only[signs,List.contains_eq_mem,jzn,E8,or_false,decide_eq_true_eq]at hc;have hp:=hw.2;rcases hc with h|h|h<;>rw[h]at hp
 ·exact absurd (hp 40 (by simp)).2 (by decide)
 ·exact absurd (hp 41 (by simp)).2 (by decide)
 ·exact absurd (hp 44 (by simp)).2 (by decide)
theorem Ps.point_eq{ns:List ByteArray}(hn:Mb ns){s:Ps}{a:Int}{l:List ByteArray}(h0:s.r=0)(a0:0≤a)(a1:a<ns.length)(hl:s.l.map B=AN ns a::l.map B):
  s.point ns=(a,s.pass):=by
 have hi:a.toNat<ns.length:=by omega
 have hg:ns.getD a.toNat ⟨#[]⟩=ns[a.toNat]:=by grind
 cases hs:s.l with
 |nil=>grind
 |cons w t=>
  rw[hs]at hl
  simp only[List.map_cons,List.cons.injEq]at hl;have hw:w=ns[a.toNat]:=(by grind[T9,AN])
  unfold Ps.point;rw[Ps.word_eq h0 hs (by rw[hw];exact hn.1 _ (by simp)),hw]
  simp only[Yj hn.2 hi]
  grind
theorem Ps.must_eq{s:Ps}{t:List UInt8}{l:List (List UInt8)}(h0:s.r=0)(hl:s.l.map B=t::l):s.must t=s.pass:=by
 cases hs:s.l with
 |nil=>grind
 |cons w r=>
  rw[hs]at hl
  simp only[List.map_cons,List.cons.injEq]at hl;have:w=Ch t:=by rw[←hl.1];rfl
  simp_all[Ps.must,Ps.nx,if_pos]
theorem Ps.pass_l{s:Ps}{t:List UInt8}{l:List (List UInt8)}(hl:s.l.map B=t::l):s.pass.l.map B=l:=by
 grind[Ps.pass,List.map_tail,List.tail_cons]
theorem jeS{k:Int}{ns:List ByteArray}(hn:Mb ns): ∀(l:List Int) (n i:Nat) (acc:List Int) (s:Ps) (rest:List (List UInt8)),l.length=n→s.r=0→(∀a∈l,0≤a∧a<ns.length)→
  (k=7→n+i=8)→s.l.map B=(if i=0 then [] else if l=[] then [] else [[44]])++K2 (l.map (AN ns))++rest→
  ∃s',KY k ns n i acc s=(acc++l,s')∧s'.r=0∧s'.l.map B=rest
 |[],0,i,acc,s,rest,_,h0,_,_,hl=>(by grind[KY,K2])
 |a::l,n+1,i,acc,s,rest,hlen,h0,ha,hk,hl=>by
  obtain⟨a0,a1⟩:=ha a (by simp)
  have hl1:l.length=n:=by simpa using hlen
  unfold KY;rw[if_neg (by omega)]
  have key: ∀s:Ps,s.r=0→s.l.map B=K2 ((a::l).map (AN ns))++rest→ ∃s',KY k ns n (i+1) (acc++[(s.point ns).1]) (s.point ns).2=(acc++a::l,s')∧s'.r=0∧s'.l.map B=rest:=fun s h0 hl=>by
   have hne: ∃t,s.l.map B=AN ns a::t∧t=(if l=[] then [] else [[44]])++K2 (l.map (AN ns))++rest:=by
    rw[hl]
    cases l with
    |nil=>grind[K2]
    |cons b l=>exact⟨_,rfl,by simp⟩
   obtain⟨t,ht,hte⟩:=hne
   have hp:=Ps.point_eq (l:=s.l.tail) hn h0 a0 a1 (by rw[ht,List.map_tail,ht];rfl)
   rw[hp]
   obtain⟨s',h1,h2,h3⟩:=jeS hn l n (i+1) (acc++[a]) s.pass rest hl1 h0 (by grind) (fun h=>by have:=hk h;omega) (by
    rw[Ps.pass_l ht,hte,if_neg (show ¬i+1=0 by omega)])
   grind
  by_cases hi:i=0
  ·grind
  ·rw[if_neg hi,if_neg (by simp)]at hl
   have hm:=Ps.must_eq (t:=[44]) h0 hl;have hp:=Ps.pass_l (t:=[44]) hl;rw[if_neg]
   ·simp only[if_neg hi,hm];exact key s.pass h0 hp
   ·rintro⟨_,_,h6⟩
    have:s.nx.map B=some [44]:=by
     unfold Ps.nx;rw[if_pos h0];cases hs:s.l with
     |nil=>grind
     |cons w r=>grind
    grind[B,Ch]
theorem Uw{k:Int}(h:arity k≠0):Pl (By k):=by
 have:k=1∨k=2∨k=3∨k=4∨k=5∨k=6∨k=7∨k=8∨k=9:=by
  grind[arity]
 rcases this with rfl|rfl|rfl|rfl|rfl|rfl|rfl|rfl|rfl<;>exact⟨by decide,by decide⟩
theorem jmf{k:Int}(h:arity k≠0):Pz (By k)=k:=by
 have:k=1∨k=2∨k=3∨k=4∨k=5∨k=6∨k=7∨k=8∨k=9:=by
  grind[arity]
 rcases this with rfl|rfl|rfl|rfl|rfl|rfl|rfl|rfl|rfl<;>decide
theorem Zr{l:List Int}(h:l.length≠6):wide l=l:=by
 unfold wide;split
 ·exact absurd rfl h
 ·rfl
theorem jlB(k:Int):arity k≠6:=by
 grind[arity]
theorem jdm: ∀{l:List (List UInt8)} (x:List UInt8),l≠[]→K2 (l++[x])=K2 l++[[44],x]
 |[],_,h=>absurd rfl h
 |[w],x,_=>rfl
 |w::v::r,x,_=>by
  rw[List.cons_append,List.cons_append,K2,←List.cons_append,jdm (l:=v::r) x (by simp)]
  ·rfl
  ·simp
theorem jf8{f:Fct}{ns:List ByteArray}(hn:Mb ns)(hk:arity f.kind≠0)(hl:f.args.length=arity f.kind)(ha: ∀a∈f.args,0≤a∧a<ns.length)
  (hs:(Bd f ns).length≤20000) (h9:f.kind=9→M8 (BL f.neg (val f.abs) (val f.den))=(f.neg,val f.abs,val f.den,0)):
  H0 ns (Ch (Bd f ns))=⟨f.kind,f.args,if f.kind=9 then (f.neg,val f.abs,val f.den) else (false,0,0),0,0⟩:=by
 have hne:f.args≠[]:=(by grind)
 have hpl: ∀w∈DQ f ns,Pl w:=fun w hw=>by
  rcases List.mem_append.1 hw with h|h
  ·obtain⟨a,ha',rfl⟩:=jzk.1 h
   obtain⟨a0,a1⟩:=ha a ha'
   have hi:a.toNat<ns.length:=by omega
   unfold AN;rw[AL,AD hi];exact hn.1 _ (by simp)
  grind[Uu]
 have hT:(psOf (Ch (Bd f ns))).l.map B=By f.kind::[40]::(K2 (DQ f ns)++[[41]]):=by
  show(splS (Ch (Bd f ns)) ((Ch (Bd f ns)).size+1)).l.map B=_
  rw[jdC]
  refine jly (Uw hk) ?_ hpl
  simp_all[DQ]
 have hsz:(Ch (Bd f ns)).size=(Bd f ns).length:=by rfl
 have hr:(psOf (Ch (Bd f ns))).r=0:=rfl
 unfold H0;rw[if_neg (by rw[hsz];omega)]
 generalize psOf (Ch (Bd f ns))=s0 at*;have hkind:s0.kind=(f.kind,s0.pass):=by
  cases hl0:s0.l with
  |nil=>grind
  |cons w r=>
   rw[hl0]at hT
   simp only[List.map_cons,List.cons.injEq]at hT;unfold Ps.kind;rw[Ps.word_eq hr hl0 (by grind[Uw])]
   simp only[hT.1,jmf hk];rw[if_neg];intro e;rw[e]at hk;exact hk rfl
 simp only[hkind];have h1:=Ps.pass_l hT;have hr1:s0.pass.r=0:=hr;generalize s0.pass=s1 at*;rw[Ps.must_eq hr1 h1];have h2:=Ps.pass_l h1;have hr2:s1.pass.r=0:=hr1;generalize s1.pass=s2 at*;have hm:f.args.map (AN ns)≠[]:=by simpa using hne
 have hsplit:K2 (DQ f ns)=K2 (f.args.map (AN ns))++if f.kind=9 then [[44],BL f.neg (val f.abs) (val f.den)] else []:=by
  grind[DQ,jdm]
 rw[hsplit,List.append_assoc]at h2
 obtain⟨s3,a1,a2,a3⟩:=jeS (k:=f.kind) hn f.args (arity f.kind) 0 [] s2 _ hl hr2 ha (fun e=>by rw[e];rfl) (by rw[if_pos rfl,List.nil_append];exact h2)
 rw[a1]
 simp only[List.nil_append];have hw:wide f.args=f.args:=(by grind[Zr,jlB])
 rw[hw]
 have fin: ∀(s:Ps) (q:Bool×Nat×Nat),s.r=0→s.l.map B=[[41]]→(if (if (s.must [41]).nx.isSome=true then (s.must [41]).fail 5 else s.must [41]).r=0 then (⟨f.kind,f.args,q,0,0⟩:FrR) else ⟨0,[],(false,0,0),(if (s.must [41]).nx.isSome=true then (s.must [41]).fail 5 else s.must [41]).a,(if (s.must [41]).nx.isSome=true then (s.must [41]).fail 5 else s.must [41]).r⟩)=⟨f.kind,f.args,q,0,0⟩:=fun s q hr hl=>by
  rw[Ps.must_eq hr hl]
  have:=Ps.pass_l hl
  have hl2:s.pass.l=[]:=by simpa using this
  have hnx:s.pass.nx=none:=by
   unfold Ps.nx
   grind
  have hr':s.pass.r=0:=hr
  simp[hnx,hr']
 by_cases e9:f.kind=9
 ·simp only[if_pos e9]at a3 ⊢;rw[Ps.must_eq (t:=[44]) a2 a3];have a4:=Ps.pass_l (t:=[44]) a3;have hr4:s3.pass.r=0:=a2;generalize s3.pass=s4 at*;have hnum:s4.num=((f.neg,val f.abs,val f.den),s4.pass):=by
   cases hl4:s4.l with
   |nil=>simp_all
   |cons w r=>
    rw[hl4]at a4
    have a4:B w=BL f.neg (val f.abs) (val f.den)∧r.map B=[[41]]:=by simpa using a4
    unfold Ps.num;rw[Ps.word_eq hr4 hl4 (by grind[Uu])]
    simp[a4.1,h9 e9]
  rw[hnum]
  exact fin s4.pass _ hr4 (Ps.pass_l a4)
 grind
end Go.Va
