/- a part of the proof -/
import Derived.Test.YtlgoebgnbkhmmaaGreatDoorZav
import Derived.Test.YtlgoebgnbkhmmaaGreatDoorZah
import Derived.Test.YtlgoebgnbkhmmaaGreatDoorZaa
import Derived.Lib.ItoaNum
set_option linter.all false
set_option maxHeartbeats 4000000
set_option maxRecDepth 10000
namespace Go.Va
open Int renaming natCast_add → qA, natCast_mul → qB, natCast_emod → qC, natCast_ediv → qD, natCast_pow → qE
open List renaming reduceReplicate → qF
open Go.Proofs
theorem jio(n:Int):CallsF Tryz.prog 279 [.c (.int .i64 n)] (RRul.res (if 15≤n∧n≤28 then MW n.toNat else .zero)):=by
 refine cO Tryz.func279 rfl ?_;simp -implicitDefEqProofs[jJ,-qA,-qB]
 repeat ((first|refine .inl ⟨_,O4 _ _,?_⟩|refine .inl ⟨_,O1 _ _,?_⟩);simp -implicitDefEqProofs[jJ,-qA,-qB])
 by_cases h15:n=15
 rotate_left
 by_cases h16:n=16
 rotate_left
 by_cases h17:n=17
 ·subst h17;simp -implicitDefEqProofs[jJ,-qA,-qB];refine AA (Ah [0,1,3,3,11,0,32,127,255]) [.any [] [30,32] (AG [30,32] [[],[]]++[⟨1,[28,29],[32],[32],[]⟩,⟨0,[],[30],[30,32],[]⟩,⟨1,[31],[30],[30],[]⟩,⟨0,[3],[30,32],[30,32],[]⟩,⟨0,[33],[30,32],[30,32],[]⟩]),.one,.one] (by rfl) ?_
  simp -implicitDefEqProofs[jJ,-qA,-qB]
  repeat ((first|refine .inl ⟨_,O4 _ _,?_⟩|refine .inl ⟨_,O1 _ _,?_⟩|refine .inl ⟨_,U3 _,?_⟩|refine⟨_,O4 _ _,?_⟩|refine⟨_,O1 _ _,?_⟩);simp -implicitDefEqProofs[jJ,-qA,-qB])
  try simp[RRul.res,RRul.ds,MW,CQ,RPat.ds,bs]
  try rfl
 by_cases h18:n=18
 rotate_left
 by_cases h19:n=19
 ·subst h19;simp -implicitDefEqProofs[jJ,-qA,-qB];refine AA (Ah [0,1,1,5,0,16,63,127]) [.any [] [47,49] [⟨0,[],[],[47,49],[]⟩,⟨1,[46],[49],[49],[]⟩,⟨0,[],[47],[47,49],[]⟩,⟨1,[48],[47],[47],[]⟩,⟨0,[3],[47,49],[47,49],[]⟩,⟨0,[50],[47,49],[47,49],[]⟩],.one,.one] (by rfl) ?_
  simp -implicitDefEqProofs[jJ,-qA,-qB]
  repeat ((first|refine .inl ⟨_,O4 _ _,?_⟩|refine .inl ⟨_,O1 _ _,?_⟩|refine .inl ⟨_,U3 _,?_⟩|refine⟨_,O4 _ _,?_⟩|refine⟨_,O1 _ _,?_⟩);simp -implicitDefEqProofs[jJ,-qA,-qB])
  try simp[RRul.res,RRul.ds,MW,CQ,RPat.ds,bs]
  try rfl
 by_cases h20:n=20
 rotate_left
 by_cases h21:n=21
 rotate_left
 by_cases h22:n=22
 rotate_left
 by_cases h23:n=23
 rotate_left
 by_cases h24:n=24
 rotate_left
 by_cases h25:n=25
 rotate_left
 by_cases h26:n=26
 rotate_left
 by_cases h27:n=27
 rotate_left
 by_cases h28:n=28
 rotate_left
 have hz: ¬(15≤n∧n≤28):=by omega
 rw[if_neg hz]
 simp -implicitDefEqProofs[jJ,-qA,-qB,h15,h16,h17,h18,h19,h20,h21,h22,h23,h24,h25,h26,h27,h28]
 try simp[RRul.res,RRul.ds,RRul.zero,CQ,bs]
 try rfl
 all_goals
  subst n;simp -implicitDefEqProofs[jJ,-qA,-qB]
  repeat ((first|refine .inl ⟨_,O4 _ _,?_⟩|refine .inl ⟨_,O1 _ _,?_⟩|refine .inl ⟨_,U3 _,?_⟩|refine⟨_,O4 _ _,?_⟩|refine⟨_,O1 _ _,?_⟩);simp -implicitDefEqProofs[jJ,-qA,-qB])
  try simp[RRul.res,RRul.ds,MW,CQ,RPat.ds,bs]
  try rfl
theorem LD(n:Nat)(h:28<n):MW n= .zero:=by
 unfold MW;split<;>first|omega|rfl
theorem ZP(n:Int):CallsF Tryz.prog 186 [.c (.int .i64 n)] (MW n.toNat).res:=by
 refine cO Tryz.func186 rfl ?_;by_cases h:n≤14
 ·have k:=jon n;have e:(if 1≤n∧n≤14 then MW n.toNat else RRul.zero)=MW n.toNat:=by
   split
   ·rfl
   ·rw[show n.toNat=0 by omega];rfl
  rw[e]at k
  generalize MW n.toNat=r at*;simp only[RRul.res,RRul.ds,CQ]at*;simp -implicitDefEqProofs[jJ,-qA,-qB,h];refine Ac k ?_;simp -implicitDefEqProofs[jJ,-qA,-qB]
 ·have k:=jio n;have e:(if 15≤n∧n≤28 then MW n.toNat else RRul.zero)=MW n.toNat:=by
   split
   ·rfl
   ·rw[LD n.toNat (by omega)]
  rw[e]at k
  generalize MW n.toNat=r at*;simp only[RRul.res,RRul.ds,CQ]at*;simp -implicitDefEqProofs[jJ,-qA,-qB,h];refine Ac k ?_;simp -implicitDefEqProofs[jJ,-qA,-qB]
theorem jny(n:Int):CallsF Tryz.prog 109 [.c (.int .i64 n)] (.u (.c (.d (.str (bs (if n=0 then [103,105,118,101,110] else (MW n.toNat).name)))))):=by
 have k1:=ZP n;generalize MW n.toNat=r at*;simp only[RRul.res,RRul.ds,CQ]at k1;refine cO Tryz.func109 rfl ?_;by_cases h:n=0
 ·simp -implicitDefEqProofs[jJ,-qA,-qB,-qF,h];rfl
 ·simp -implicitDefEqProofs[jJ,-qA,-qB,-qF,h];refine Ac k1 ?_;simp -implicitDefEqProofs[jJ,-qA,-qB,-qF]
theorem jpl(n:Int):CallsF Tryz.prog 110 [.c (.int .i64 n)] (.u (.c (.d (.int .i64 (if n<0∨28<n then -1 else ((MW n.toNat).frm.length:Int)))))):=by
 have k1:=ZP n;generalize MW n.toNat=r at*;simp only[RRul.res,RRul.ds,CQ]at k1;refine cO Tryz.func110 rfl ?_;by_cases h:n<0
 ·simp -implicitDefEqProofs[jJ,-qA,-qB,-qF,h]
 ·by_cases h2:28<n
  ·simp -implicitDefEqProofs[jJ,-qA,-qB,-qF,h,h2]
  ·simp -implicitDefEqProofs[jJ,-qA,-qB,-qF,h,h2];refine Ac k1 ?_;simp -implicitDefEqProofs[jJ,-qA,-qB,-qF]
theorem Wt: ∀n:Fin 29,(A4 n).name=(MW n).name∧(n≠0→(A4 n).name≠[]∧(A4 n).count+(A4 n).prem.length=(MW n).frm.length):=by decide+kernel
theorem Qs(n:Int):(rulT n).name=(MW n.toNat).name:=by
 show(A4 n.toNat).name=_
 by_cases h:n.toNat<29
 ·exact(Wt ⟨n.toNat,h⟩).1
 ·rw[Nh _ (by omega),LD _ (by omega)];rfl
theorem jlP(n:Int):(if n=0 then 0 else if (rulT n).name=[] then -1 else (rulT n).count)=(if n<0∨28<n then -1 else ((MW n.toNat).frm.length:Int)):=by
 by_cases h0:n=0
 ·subst h0;rfl
 rw[if_neg h0]
 by_cases h1:n<0∨28<n
 ·rw[if_pos h1]
  have:(rulT n).name=[]:=by
   show(A4 n.toNat).name=[]
   rcases h1 with h1|h1
   ·rw[show n.toNat=0 by omega];rfl
   ·rw[Nh _ (by omega)];rfl
  rw[if_pos this]
 ·have h:=Wt ⟨n.toNat,by omega⟩
  have h2:=h.2 (by
   intro e;have:=congrArg Fin.val e;simp at this;omega)
  have h3:(rulT n).name≠[]:=h2.1;rw[if_neg h1,if_neg h3];exact h2.2
end Go.Va
namespace Go.Va
open Go.RowKit
def H6:Nat→Code→Code
 |0,_=> .skip
 |n+1,.seq x y=> .seq x (H6 n y)
 |_,_=> .goto 0
def back:Nat→Code→Code
 |0,c=>c
 |n+1,.seq _ y=>back n y
 |_,_=> .skip
def He(Mid:St→Prop)(Q:Bk):Bk:=fun e s=>match e with| .normal=>Mid s|e=>Q e s
section
variable [Gv] {P:Program} {T:AH} {X:Cx}
theorem OC(hT:A5 P T)(hY: ∀Y,X.Y=some Y→YlOk P Y)(hm:P.follows .mixedOrders=true){R:Exit→Act→World→Prop}{Mid:St→Prop}{Q:Bk}
  (hQ: ∀e a w,e≠ .normal→Jz X Q e a w→R e a w): ∀(n:Nat) (c:Code) (a:Act) (w:World),B6 X.n X.pin c=true→BX X (fun st=>Bl P T (H6 n c) st (He Mid Q)) a w→
  (∀a w,BX X Mid a w→(back n c).wp P R a w)→c.wp P R a w
 |0,c,a,w,_,h,hb=>hb a w h
 |n+1,.seq x y,a,w,hok,h,hb=>by
  simp only[B6,AR]at hok;refine wp_seq ((Dr hT hY hm x (DO (Bl P T (H6 n y)) (He Mid Q)) a w hok.1 h).mono' fun e a' w' he=> ?_)
  cases e
  case normal=>exact OC hT hY hm hQ n y a' w' hok.2 he hb
  all_goals exact hQ _ a' w' (by simp) he
 |n+1,.skip,a,w,_,⟨_,_,_,_,_,_,_,_,h⟩,_=>h.elim
 |n+1,.region _ _ _,a,w,_,⟨_,_,_,_,_,_,_,_,h⟩,_=>h.elim
 |n+1,.cond _ _ _,a,w,_,⟨_,_,_,_,_,_,_,_,h⟩,_=>h.elim
 |n+1,.block _ _,a,w,_,⟨_,_,_,_,_,_,_,_,h⟩,_=>h.elim
 |n+1,.loop _,a,w,_,⟨_,_,_,_,_,_,_,_,h⟩,_=>h.elim
 |n+1,.exit _,a,w,_,⟨_,_,_,_,_,_,_,_,h⟩,_=>h.elim
 |n+1,.ret,a,w,_,⟨_,_,_,_,_,_,_,_,h⟩,_=>h.elim
 |n+1,.rangeFunc _ _ _ _,a,w,_,⟨_,_,_,_,_,_,_,_,h⟩,_=>h.elim
 |n+1,.scope _,a,w,_,⟨_,_,_,_,_,_,_,_,h⟩,_=>h.elim
 |n+1,.label _,a,w,_,⟨_,_,_,_,_,_,_,_,h⟩,_=>h.elim
 |n+1,.goto _,a,w,_,⟨_,_,_,_,_,_,_,_,h⟩,_=>h.elim
 |n+1,.refuse _,a,w,_,⟨_,_,_,_,_,_,_,_,h⟩,_=>h.elim
end
theorem jht{P:Program}{T:AH}(hT:A5 P T)(hm:P.follows .mixedOrders=true){f:FuncId}{fn:Func}{c:Code}{bs:List A}{s:ByteArray}(n:Nat)(Mid:St→Prop)(hf:P.funcs[f]? =some fn)(hb:fn.body=some c)
  (hname : (fn.name == "runtime.NumGoroutine") = false) (hn : bs.length ≤ fn.ntmps) (hok : B6 fn.ntmps [] c = true)
  (hw: ∀[Gv],Bl P T (H6 n c) (St.init bs) (He Mid (HU T fn.results.toList (.u (.c (.d (.str s)))))))
  (hback: ∀[Gv] (Z:Addr→Prop) (w0 w:World) (ρ:AE) (st:St) (a:Act),Rel (fun _=>False) Z w0 ρ st a w→a.tmps.size=fn.ntmps→Mid st→
   (back n c).wp P (bodyPost P fn fun e w'=>e= .returned (.string s)∧Below w.heap.size w w'∧DR w.drawn w'.drawn) a w):CallsF P f bs (.u (.c (.d (.str s)))):=by
 refine⟨⟨fn,hf,by rw[hb];rfl,hname⟩,fun w Z vals hZ hvals=> ?_⟩
 have hlen:vals.length=bs.length:=hvals.1.symm
 refine calls_of_wp hf hb ?_;have hsz:(vals.toArray++Array.replicate (fn.ntmps - vals.toArray.size) undef).size=fn.ntmps:=by simp;omega
 have hrel:Rel (fun _=>False) Z w (fun _=>none) (St.init bs) { tmps:=vals.toArray++Array.replicate (fn.ntmps - vals.toArray.size) undef,defers:=[] } w:=
  {fr:=⟨rfl,DR.refl _,rfl,rfl,AO _,fun a v _ h=>h,fun _ _ _=>rfl,fun _ _ _=>rfl⟩
   heap:=⟨⟨fun i o hi=>(by cases hi),fun i i' o o' hi=>(by cases hi),fun i o hi=>(by cases hi)⟩,fun i b hb=>(by cases hb)⟩
   mine:=fun i o ad hi=>(by cases hi)
   out:=hZ.mono fun ad h=>h.elim id False.elim
   mz:=fun ad h=>h.elim
   tmps:=fun t v hv=>by
    obtain⟨_,x,hx,hr⟩:=Eg bs vals 0 hvals t v hv
    have ht:t<vals.length:=by simpa using (jzg.1 hx).1
    simp only[Nat.sub_zero]at hx;have:(vals.toArray++Array.replicate (fn.ntmps - vals.toArray.size) undef).getD t undef=x:=by
     rw[Cn,Array.getElem?_append_left (by simpa using ht)]
     simp[hx]
    rw[this]
    exact hr
   defers:=rfl
   mps:=fun i o hi=>by cases hi }
 refine OC (X:=⟨fun _=>False,Z,w,fn.ntmps,[],fun _=>undef,none,fun _=>False,fun _=>False⟩) hT (fun Y h=>by cases h) hm (Mid:=Mid) (Q:=HU T fn.results.toList (.u (.c (.d (.str s))))) ?_ n c _ w hok
  ⟨_,_,_,_,_,⟨fun k hk=>by simp at hk,fun _=>⟨rfl,rfl,rfl⟩,hrel.fr.mono fun _ h=> .inl h,fun _ h=>h,fun _ h=> .inl h,fun x r hh=>absurd hh (GU bs 0 YS x r)⟩,hrel,hsz,hw⟩ ?_
 ·intro e a' w' hne hg;obtain⟨M1,Z1,w1,ρ,st,hL,h1,h2,hend,v,hv,hl,hfit⟩:=hg;obtain⟨rfl,rfl,rfl⟩:=hL.plain rfl;obtain⟨x,hx,hrx⟩:=GT (P:=P) hT h1 hv;have hres:=Ts h1 hl hfit hrx;have hbel:Ext w1 w':=⟨⟨h1.fr.os,h1.fr.tape,h1.fr.output,h1.fr.size,fun k hk=>h1.fr.blk k hk (fun _ _ h=>h)⟩,h1.fr.drawn⟩
  rcases hend with rfl|rfl
  ·exact⟨h1.defers,x,hx,x,rfl,hbel,hres⟩
  ·exact⟨h1.defers,x,hx,x,rfl,hbel,hres⟩
 ·rintro a' w' ⟨M1,Z1,w1,ρ,st,hL,h1,h2,h3⟩
  obtain⟨rfl,rfl,rfl⟩:=hL.plain rfl
  have hbel:Ext w1 w':=⟨⟨h1.fr.os,h1.fr.tape,h1.fr.output,h1.fr.size,fun k hk=>h1.fr.blk k hk (fun _ _ h=>h)⟩,h1.fr.drawn⟩
  refine(hback _ _ w' ρ st a' h1 h2 h3).mono' fun e a2 w2 hg=> ?_
  have fin: ∀(e:Ending) (w2:World),(e= .returned (.string s)∧Below w'.heap.size w' w2∧DR w'.drawn w2.drawn)→ ∃v,e= .returned v∧Ext w1 w2∧Hb w1 w2 Z1 (.u (.c (.d (.str s)))) v:=by
   rintro e w2 ⟨rfl,hb,hd⟩
   refine⟨_,rfl,⟨hbel.toBelow.trans (hb.mono hbel.toBelow.size),hbel.drawn.trans hd⟩,by simp[R.rows,RU.rows,RC.rows],⟨0,0,0,0,false,false,true⟩,fun ad h=>(by cases h.1),fun k=>⟨RepD.str _,⟨⟨fun i o hi=>(by cases hi),fun i i' o o' hi=>(by cases hi),fun i o hi=>(by cases hi)⟩,fun i b hb=>(by cases hb)⟩⟩⟩
  cases e with
  |normal=>obtain⟨g1,v,g2,g3⟩:=hg;exact⟨g1,v,g2,fin _ _ g3⟩
  |ret=>obtain⟨g1,v,g2,g3⟩:=hg;exact⟨g1,v,g2,fin _ _ g3⟩
  |panic ch=>exact⟨hg.1,fin _ _ hg.2⟩
  |outgrown=>exact fin _ _ hg
  |exit _=>exact hg.elim
  |goto _=>exact hg.elim
end Go.Va
namespace Go.Va
open Go
theorem IT{n:Nat}(h:n<256):(UInt8.ofNat n).toNat=n:=by
 rw[UInt8.toNat_ofNat']
 exact AX h
theorem Nu(u:Nat):Lib.decDigits u≠[]:=by
 rw[Lib.decDigits]
 split<;>simp
def BL(neg:Bool)(m d:Nat):List UInt8:=(if neg then [45] else [])++(Lib.decDigits m++(if d=1 then [] else 47::Lib.decDigits d))
def BI(n:Nat):List UInt8:=if n=0 then [] else Lib.decDigits n
theorem digO_nil{n:Nat}:BI n=[]↔n=0:=by
 grind[BI,Nu]
theorem digO_len{n:Nat}:0<(BI n).length↔n≠0:=by
 constructor
 ·intro h h0;rw[digO_nil.2 h0]at h;cases h
 ·intro h;rcases Nat.eq_zero_or_pos (BI n).length with h0|h0
  ·exact absurd (digO_nil.1 (by grind)) h
  ·exact h0
theorem jkd{m x:Nat}(hx:x<10)(h:m*10+x≠0):BI (m*10+x)=BI m++[UInt8.ofNat (48+x)]:=by
 unfold BI;rw[if_neg h];split
 ·simp_all[Lib.decDigits,dif_pos]
 ·rename_i h0
  rw[Lib.decDigits,dif_neg (by omega),show(m*10+x)/10=m by omega,show(m*10+x)%10=x by omega]
def d1(out:List UInt8)(g d:Nat):List UInt8:=if 0<out.length∨d≤g then out++[UInt8.ofNat (48+g/d%10)] else out
theorem HY{m g d x n:Nat}(hx:g/d%10=x)(hn:m*10+x=n)(hc:d≤g→n≠0)(hm:m=0→n≠0→d≤g):d1 (BI m) g d=BI n:=by
 subst hn;subst hx;have hlt:g/d%10<10:=(by omega)
 unfold d1;by_cases h:m*10+g/d%10=0
 ·have m0:m=0:=by omega
  rw[if_neg,h,m0]
  rintro (h1|h1)
  ·exact digO_len.1 h1 m0
  ·exact hc h1 h
 ·rw[if_pos,jkd hlt h]
  rcases Nat.eq_zero_or_pos m with m0|m0
  ·omega
  ·exact .inl (digO_len.2 (by omega))
def d4(out:List UInt8)(g:Nat):List UInt8:=d1 (d1 (d1 (d1 out g 1000) g 100) g 10) g 1
theorem jaa{m g:Nat}(hg:g<10000):d4 (BI m) g=BI (m*10000+g):=by
 unfold d4;rw[HY (m:=m) (g:=g) (d:=1000) (n:=m*10+g/1000) rfl (by omega) (by omega) (by omega),
  HY (g:=g) (d:=100) (n:=m*100+g/100) rfl (by omega) (by omega) (by omega),
  HY (g:=g) (d:=10) (n:=m*1000+g/10) rfl (by omega) (by omega) (by omega),
  HY (g:=g) (d:=1) (n:=m*10000+g) rfl (by omega) (by omega) (by omega)]
def C5(m k:Nat):List Nat:=(List.range k).map fun j=>m/10000^j%10000
theorem jkt(m k:Nat):(C5 m k).length=k:=by simp[C5]
theorem jir(m k:Nat):C5 m (k+1)=C5 m k++[m/10000^k%10000]:=by simp[C5,List.range_succ]
theorem jiz{m k i:Nat}(h:i<k):(C5 m k)[i]? =some (m/10000^i%10000):=by simp[C5,h]
theorem NQ(m i:Nat):m/10000^(i+1)*10000+m/10000^i%10000=m/10000^i:=by
 rw[Nat.pow_succ,←Nat.div_div_eq_div_mul]
 omega
theorem jkc(m i:Nat):d4 (BI (m/10000^(i+1))) (m/10000^i%10000)=BI (m/10000^i):=by
 grind[jaa,Nat.mod_lt,NQ]
theorem KT: ∀(k n:Nat),n<10^(k+1)→(Lib.decDigits n).length≤k+1
 |0,n,h=>by simp_all[Lib.decDigits,dif_pos]
 |k+1,n,h=>by
  rw[Lib.decDigits]
  split
  ·simp
  ·rw[List.length_append,List.length_singleton]
   have:=KT k (n/10) (by omega)
   omega
theorem jaM{k n:Nat}(h:n<10^(k+1)):(BI n).length≤k+1:=by
 unfold BI;split
 ·simp
 ·exact KT k n h
def Ch(l:List UInt8):ByteArray:=⟨l.toArray⟩
theorem Ng(l m:List UInt8):Ch l++Ch m=Ch (l++m):=by
 rfl
theorem Ja(l:List UInt8):(Ch l).size=l.length:=by rfl
theorem I5{n:Nat}(hn:n<340282366920938463463374607431768211456):(Lib.decDigits n).length≤39:=KT 38 n (by omega)
def intW(neg:Bool)(m:Nat):List UInt8:=(if neg∧m≠0 then [45] else [])++Lib.decDigits m
end Go.Va
