/- a part of the proof -/
import Derived.Test.YtfmhdeggclefdaaGreatDoorKah
import Derived.Test.YtfmhdeggclefdaaGreatDoorKaa
import Derived.Lib.ItoaNum
import Derived.Shelf.Strings.BuilderK
import Derived.Shelf.Strings.OnBuilder
import Derived.Shelf.Strings.Cut
import Derived.Shelf.Strings.Split
import Derived.Shelf.Strconv.Atoi
import Derived.Shelf.Strconv.Itoa3
import Derived.Test.YtfmhdeggclefdaaGreatDoorProg
set_option linter.all false
namespace Go.Va
open Go.RowKit
def H6:Nat→Code→Code
 |0,_=> .skip
 |n+1,.seq x y=> .seq x (H6 n y)
 |_,_=> .goto 0
def back:Nat→Code→Code
 |0,c=>c
 |n+1,.seq _ y=>back n y
 |_,_=> .skip
def He(Mid:St→Prop)(Q:Bk):Bk:=fun e s=>match e with| .normal=>Mid s|e=>Q e s
section
variable [Gv] {P:Program} {T:AH} {X:Cx}
theorem OC(hT:A5 P T)(hY: ∀Y,X.Y=some Y→YlOk P Y)(hm:P.follows .mixedOrders=true){R:Exit→Act→World→Prop}{Mid:St→Prop}{Q:Bk}
  (hQ: ∀e a w,e≠ .normal→Jz X Q e a w→R e a w): ∀(n:Nat) (c:Code) (a:Act) (w:World),B6 X.n X.pin c=true→BX X (fun st=>Bl P T (H6 n c) st (He Mid Q)) a w→
  (∀a w,BX X Mid a w→(back n c).wp P R a w)→c.wp P R a w
 |0,c,a,w,_,h,hb=>hb a w h
 |n+1,.seq x y,a,w,hok,h,hb=>by
  simp only[B6,AR]at hok;refine wp_seq ((Dr hT hY hm x (DO (Bl P T (H6 n y)) (He Mid Q)) a w hok.1 h).mono' fun e a' w' he=> ?_)
  cases e
  case normal=>exact OC hT hY hm hQ n y a' w' hok.2 he hb
  all_goals exact hQ _ a' w' (by simp) he
 |n+1,.skip,a,w,_,⟨_,_,_,_,_,_,_,_,h⟩,_=>h.elim
 |n+1,.region _ _ _,a,w,_,⟨_,_,_,_,_,_,_,_,h⟩,_=>h.elim
 |n+1,.cond _ _ _,a,w,_,⟨_,_,_,_,_,_,_,_,h⟩,_=>h.elim
 |n+1,.block _ _,a,w,_,⟨_,_,_,_,_,_,_,_,h⟩,_=>h.elim
 |n+1,.loop _,a,w,_,⟨_,_,_,_,_,_,_,_,h⟩,_=>h.elim
 |n+1,.exit _,a,w,_,⟨_,_,_,_,_,_,_,_,h⟩,_=>h.elim
 |n+1,.ret,a,w,_,⟨_,_,_,_,_,_,_,_,h⟩,_=>h.elim
 |n+1,.rangeFunc _ _ _ _,a,w,_,⟨_,_,_,_,_,_,_,_,h⟩,_=>h.elim
 |n+1,.scope _,a,w,_,⟨_,_,_,_,_,_,_,_,h⟩,_=>h.elim
 |n+1,.label _,a,w,_,⟨_,_,_,_,_,_,_,_,h⟩,_=>h.elim
 |n+1,.goto _,a,w,_,⟨_,_,_,_,_,_,_,_,h⟩,_=>h.elim
 |n+1,.refuse _,a,w,_,⟨_,_,_,_,_,_,_,_,h⟩,_=>h.elim
end
theorem jht{P:Program}{T:AH}(hT:A5 P T)(hm:P.follows .mixedOrders=true){f:FuncId}{fn:Func}{c:Code}{bs:List A}{s:ByteArray}(n:Nat)(Mid:St→Prop)(hf:P.funcs[f]? =some fn)(hb:fn.body=some c)
  (hname : (fn.name == "runtime.NumGoroutine") = false) (hn : bs.length ≤ fn.ntmps) (hok : B6 fn.ntmps [] c = true)
  (hw: ∀[Gv],Bl P T (H6 n c) (St.init bs) (He Mid (HU T fn.results.toList (.u (.c (.d (.str s)))))))
  (hback: ∀[Gv] (Z:Addr→Prop) (w0 w:World) (ρ:AE) (st:St) (a:Act),Rel (fun _=>False) Z w0 ρ st a w→a.tmps.size=fn.ntmps→Mid st→
   (back n c).wp P (bodyPost P fn fun e w'=>e= .returned (.string s)∧Below w.heap.size w w'∧DR w.drawn w'.drawn) a w):CallsF P f bs (.u (.c (.d (.str s)))):=by
 refine⟨⟨fn,hf,by rw[hb];rfl,hname⟩,fun w Z vals hZ hvals=> ?_⟩
 have hlen:vals.length=bs.length:=hvals.1.symm
 refine calls_of_wp hf hb ?_;have hsz:(vals.toArray++Array.replicate (fn.ntmps - vals.toArray.size) undef).size=fn.ntmps:=by simp;omega
 have hrel:Rel (fun _=>False) Z w (fun _=>none) (St.init bs) { tmps:=vals.toArray++Array.replicate (fn.ntmps - vals.toArray.size) undef,defers:=[] } w:=
  {fr:=⟨rfl,DR.refl _,rfl,rfl,AO _,fun a v _ h=>h,fun _ _ _=>rfl,fun _ _ _=>rfl⟩
   heap:=⟨⟨fun i o hi=>(by cases hi),fun i i' o o' hi=>(by cases hi),fun i o hi=>(by cases hi)⟩,fun i b hb=>(by cases hb)⟩
   mine:=fun i o ad hi=>(by cases hi)
   out:=hZ.mono fun ad h=>h.elim id False.elim
   mz:=fun ad h=>h.elim
   tmps:=fun t v hv=>by
    obtain⟨_,x,hx,hr⟩:=Eg bs vals 0 hvals t v hv
    have ht:t<vals.length:=by simpa using (jzg.1 hx).1
    simp only[Nat.sub_zero]at hx;have:(vals.toArray++Array.replicate (fn.ntmps - vals.toArray.size) undef).getD t undef=x:=by
     rw[Cn,Array.getElem?_append_left (by simpa using ht)]
     simp[hx]
    rw[this]
    exact hr
   defers:=rfl
   mps:=fun i o hi=>by cases hi }
 refine OC (X:=⟨fun _=>False,Z,w,fn.ntmps,[],fun _=>undef,none,fun _=>False,fun _=>False⟩) hT (fun Y h=>by cases h) hm (Mid:=Mid) (Q:=HU T fn.results.toList (.u (.c (.d (.str s))))) ?_ n c _ w hok
  ⟨_,_,_,_,_,⟨fun k hk=>by simp at hk,fun _=>⟨rfl,rfl,rfl⟩,hrel.fr.mono fun _ h=> .inl h,fun _ h=>h,fun _ h=> .inl h,fun x r hh=>absurd hh (GU bs 0 YS x r)⟩,hrel,hsz,hw⟩ ?_
 ·intro e a' w' hne hg;obtain⟨M1,Z1,w1,ρ,st,hL,h1,h2,hend,v,hv,hl,hfit⟩:=hg;obtain⟨rfl,rfl,rfl⟩:=hL.plain rfl;obtain⟨x,hx,hrx⟩:=GT (P:=P) hT h1 hv;have hres:=Ts h1 hl hfit hrx;have hbel:Ext w1 w':=⟨⟨h1.fr.os,h1.fr.tape,h1.fr.output,h1.fr.size,fun k hk=>h1.fr.blk k hk (fun _ _ h=>h)⟩,h1.fr.drawn⟩
  rcases hend with rfl|rfl
  ·exact⟨h1.defers,x,hx,x,rfl,hbel,hres⟩
  ·exact⟨h1.defers,x,hx,x,rfl,hbel,hres⟩
 ·rintro a' w' ⟨M1,Z1,w1,ρ,st,hL,h1,h2,h3⟩
  obtain⟨rfl,rfl,rfl⟩:=hL.plain rfl
  have hbel:Ext w1 w':=⟨⟨h1.fr.os,h1.fr.tape,h1.fr.output,h1.fr.size,fun k hk=>h1.fr.blk k hk (fun _ _ h=>h)⟩,h1.fr.drawn⟩
  refine(hback _ _ w' ρ st a' h1 h2 h3).mono' fun e a2 w2 hg=> ?_
  have fin: ∀(e:Ending) (w2:World),(e= .returned (.string s)∧Below w'.heap.size w' w2∧DR w'.drawn w2.drawn)→ ∃v,e= .returned v∧Ext w1 w2∧Hb w1 w2 Z1 (.u (.c (.d (.str s)))) v:=by
   rintro e w2 ⟨rfl,hb,hd⟩
   refine⟨_,rfl,⟨hbel.toBelow.trans (hb.mono hbel.toBelow.size),hbel.drawn.trans hd⟩,by simp[R.rows,RU.rows,RC.rows],⟨0,0,0,0,false,false,true⟩,fun ad h=>(by cases h.1),fun k=>⟨RepD.str _,⟨⟨fun i o hi=>(by cases hi),fun i i' o o' hi=>(by cases hi),fun i o hi=>(by cases hi)⟩,fun i b hb=>(by cases hb)⟩⟩⟩
  cases e with
  |normal=>obtain⟨g1,v,g2,g3⟩:=hg;exact⟨g1,v,g2,fin _ _ g3⟩
  |ret=>obtain⟨g1,v,g2,g3⟩:=hg;exact⟨g1,v,g2,fin _ _ g3⟩
  |panic ch=>exact⟨hg.1,fin _ _ hg.2⟩
  |outgrown=>exact fin _ _ hg
  |exit _=>exact hg.elim
  |goto _=>exact hg.elim
end Go.Va
namespace Go.Va
open Go
theorem IT{n:Nat}(h:n<256):(UInt8.ofNat n).toNat=n:=by
 rw[UInt8.toNat_ofNat']
 exact AX h
theorem Nu(u:Nat):Lib.decDigits u≠[]:=by
 rw[Lib.decDigits]
 split<;>simp
def BL(neg:Bool)(m d:Nat):List UInt8:=(if neg then [45] else [])++(Lib.decDigits m++(if d=1 then [] else 47::Lib.decDigits d))
def BI(n:Nat):List UInt8:=if n=0 then [] else Lib.decDigits n
theorem digO_nil{n:Nat}:BI n=[]↔n=0:=by
 unfold BI;split
 ·simp[*]
 ·simp[*,Nu]
theorem digO_len{n:Nat}:0<(BI n).length↔n≠0:=by
 constructor
 ·intro h h0;rw[digO_nil.2 h0]at h;cases h
 ·intro h;rcases Nat.eq_zero_or_pos (BI n).length with h0|h0
  ·exact absurd (digO_nil.1 (jzv.1 h0)) h
  ·exact h0
theorem jkd{m x:Nat}(hx:x<10)(h:m*10+x≠0):BI (m*10+x)=BI m++[UInt8.ofNat (48+x)]:=by
 unfold BI;rw[if_neg h];split
 ·rename_i h0
  subst h0;rw[Lib.decDigits,dif_pos (by omega)]
  simp
 ·rename_i h0
  rw[Lib.decDigits,dif_neg (by omega),show(m*10+x)/10=m by omega,show(m*10+x)%10=x by omega]
def d1(out:List UInt8)(g d:Nat):List UInt8:=if 0<out.length∨d≤g then out++[UInt8.ofNat (48+g/d%10)] else out
theorem HY{m g d x n:Nat}(hx:g/d%10=x)(hn:m*10+x=n)(hc:d≤g→n≠0)(hm:m=0→n≠0→d≤g):d1 (BI m) g d=BI n:=by
 subst hn;subst hx;have hlt:g/d%10<10:=Nat.mod_lt _ (by omega)
 unfold d1;by_cases h:m*10+g/d%10=0
 ·have m0:m=0:=by omega
  rw[if_neg,h,m0]
  rintro (h1|h1)
  ·exact digO_len.1 h1 m0
  ·exact hc h1 h
 ·rw[if_pos,jkd hlt h]
  rcases Nat.eq_zero_or_pos m with m0|m0
  ·exact .inr (hm m0 h)
  ·exact .inl (digO_len.2 (by omega))
def d4(out:List UInt8)(g:Nat):List UInt8:=d1 (d1 (d1 (d1 out g 1000) g 100) g 10) g 1
theorem jaa{m g:Nat}(hg:g<10000):d4 (BI m) g=BI (m*10000+g):=by
 unfold d4;rw[HY (m:=m) (g:=g) (d:=1000) (n:=m*10+g/1000) rfl (by omega) (by omega) (by omega),
  HY (g:=g) (d:=100) (n:=m*100+g/100) rfl (by omega) (by omega) (by omega),
  HY (g:=g) (d:=10) (n:=m*1000+g/10) rfl (by omega) (by omega) (by omega),
  HY (g:=g) (d:=1) (n:=m*10000+g) rfl (by omega) (by omega) (by omega)]
def C5(m k:Nat):List Nat:=(List.range k).map fun j=>m/10000^j%10000
theorem jkt(m k:Nat):(C5 m k).length=k:=by simp[C5]
theorem jir(m k:Nat):C5 m (k+1)=C5 m k++[m/10000^k%10000]:=by simp[C5,List.range_succ]
theorem jiz{m k i:Nat}(h:i<k):(C5 m k)[i]? =some (m/10000^i%10000):=by simp[C5,h]
theorem NQ(m i:Nat):m/10000^(i+1)*10000+m/10000^i%10000=m/10000^i:=by
 rw[Nat.pow_succ,←Nat.div_div_eq_div_mul]
 omega
theorem jkc(m i:Nat):d4 (BI (m/10000^(i+1))) (m/10000^i%10000)=BI (m/10000^i):=by
 rw[jaa (Nat.mod_lt _ (by omega)),NQ]
theorem KT: ∀(k n:Nat),n<10^(k+1)→(Lib.decDigits n).length≤k+1
 |0,n,h=>by rw[Lib.decDigits,dif_pos (by omega)];simp
 |k+1,n,h=>by
  rw[Lib.decDigits]
  split
  ·simp
  ·rw[List.length_append,List.length_singleton]
   have:=KT k (n/10) (by rw[Nat.pow_succ]at h;omega)
   omega
theorem jaM{k n:Nat}(h:n<10^(k+1)):(BI n).length≤k+1:=by
 unfold BI;split
 ·simp
 ·exact KT k n h
def Ch(l:List UInt8):ByteArray:=⟨l.toArray⟩
theorem Ng(l m:List UInt8):Ch l++Ch m=Ch (l++m):=by
 apply ByteArray.ext
 simp[Ch,ByteArray.data_append]
theorem Ja(l:List UInt8):(Ch l).size=l.length:=by simp[Ch,ByteArray.size]
theorem I5{n:Nat}(hn:n<340282366920938463463374607431768211456):(Lib.decDigits n).length≤39:=KT 38 n (by omega)
def intW(neg:Bool)(m:Nat):List UInt8:=(if neg∧m≠0 then [45] else [])++Lib.decDigits m
end Go.Va
namespace Go.Proofs
open Go.Shelf
def Tryz.laysWB_ren:Go.Shelf.Ren:=⟨fun|167=>271|240=>59|276=>104|n=>n,fun|0=>0|4=>4|5=>5|9=>9|20=>20|37=>76|70=>75|72=>78|75=>81|164=>165|80=>61|n=>n,fun|n=>n⟩
theorem Tryz.laysWB:Go.Proofs.Lays.n167 Tryz.prog Tryz.laysWB_ren:={
 mixed:=by kernel_rfl
 f167:=Tryz.func271.trans (congrArg some (by kernel_rfl))
 f240:=Tryz.func59.trans (congrArg some (by kernel_rfl))
 f276:=Tryz.func104.trans (congrArg some (by kernel_rfl))
 t0:=Tryz.underlying0
 a0:=Tryz.isAgg0
 z0:=Tryz.sizeOf0
 v0:=Tryz.zeroValue0
 t4:=Tryz.underlying4
 a4:=Tryz.isAgg4
 z4:=Tryz.sizeOf4
 v4:=Tryz.zeroValue4
 t5:=Tryz.underlying5
 a5:=Tryz.isAgg5
 z5:=Tryz.sizeOf5
 v5:=Tryz.zeroValue5
 t9:=Tryz.underlying9
 a9:=Tryz.isAgg9
 z9:=Tryz.sizeOf9
 v9:=Tryz.zeroValue9
 t20:=Tryz.underlying20
 a20:=Tryz.isAgg20
 z20:=Tryz.sizeOf20
 v20:=Tryz.zeroValue20
 t37:=Tryz.underlying76
 a37:=Tryz.isAgg76
 z37:=Tryz.sizeOf76
 v37:=Tryz.zeroValue76
 t70:=Tryz.underlying75
 a70:=Tryz.isAgg75
 z70:=Tryz.sizeOf75
 v70:=Tryz.zeroValue75
 t72:=Tryz.underlying78
 a72:=Tryz.isAgg78
 z72:=Tryz.sizeOf78
 v72:=Tryz.zeroValue78
 t75:=Tryz.underlying81
 a75:=Tryz.isAgg81
 z75:=Tryz.sizeOf81
 v75:=Tryz.zeroValue81
 t164:=Tryz.underlying165
 a164:=Tryz.isAgg165
 z164:=Tryz.sizeOf165
 v164:=Tryz.zeroValue165 }
theorem Tryz.extWB:Builder.Extra Tryz.prog Tryz.laysWB_ren where
 sizeBuilder:=by kernel_rfl
 liesBuilder:=by kernel_rfl
 t5:=Tryz.underlying5
 a5:=Tryz.isAgg5
 z5:=Tryz.sizeOf5
 v5:=Tryz.zeroValue5
 infoByte:=by kernel_rfl
 cellsByte:=by kernel_rfl
 sizeByte:=by kernel_rfl
 neB5:=by decide
def Tryz.laysWS_ren:Go.Shelf.Ren:=⟨fun|166=>26|240=>59|276=>104|n=>n,fun|0=>0|3=>3|4=>4|9=>9|20=>20|37=>76|70=>75|72=>78|75=>81|164=>165|80=>61|n=>n,fun|n=>n⟩
theorem Tryz.laysWS:Go.Proofs.Lays.n166 Tryz.prog Tryz.laysWS_ren:={
 mixed:=by kernel_rfl
 f166:=Tryz.func26.trans (congrArg some (by kernel_rfl))
 f240:=Tryz.func59.trans (congrArg some (by kernel_rfl))
 f276:=Tryz.func104.trans (congrArg some (by kernel_rfl))
 t0:=Tryz.underlying0
 a0:=Tryz.isAgg0
 z0:=Tryz.sizeOf0
 v0:=Tryz.zeroValue0
 t3:=Tryz.underlying3
 a3:=Tryz.isAgg3
 z3:=Tryz.sizeOf3
 v3:=Tryz.zeroValue3
 t4:=Tryz.underlying4
 a4:=Tryz.isAgg4
 z4:=Tryz.sizeOf4
 v4:=Tryz.zeroValue4
 t9:=Tryz.underlying9
 a9:=Tryz.isAgg9
 z9:=Tryz.sizeOf9
 v9:=Tryz.zeroValue9
 t20:=Tryz.underlying20
 a20:=Tryz.isAgg20
 z20:=Tryz.sizeOf20
 v20:=Tryz.zeroValue20
 t37:=Tryz.underlying76
 a37:=Tryz.isAgg76
 z37:=Tryz.sizeOf76
 v37:=Tryz.zeroValue76
 t70:=Tryz.underlying75
 a70:=Tryz.isAgg75
 z70:=Tryz.sizeOf75
 v70:=Tryz.zeroValue75
 t72:=Tryz.underlying78
 a72:=Tryz.isAgg78
 z72:=Tryz.sizeOf78
 v72:=Tryz.zeroValue78
 t75:=Tryz.underlying81
 a75:=Tryz.isAgg81
 z75:=Tryz.sizeOf81
 v75:=Tryz.zeroValue81
 t164:=Tryz.underlying165
 a164:=Tryz.isAgg165
 z164:=Tryz.sizeOf165
 v164:=Tryz.zeroValue165 }
theorem Tryz.extWS:Builder.Extra Tryz.prog Tryz.laysWS_ren where
 sizeBuilder:=by kernel_rfl
 liesBuilder:=by kernel_rfl
 t5:=Tryz.underlying5
 a5:=Tryz.isAgg5
 z5:=Tryz.sizeOf5
 v5:=Tryz.zeroValue5
 infoByte:=by kernel_rfl
 cellsByte:=by kernel_rfl
 sizeByte:=by kernel_rfl
 neB5:=by decide
def Tryz.laysBS_ren:Go.Shelf.Ren:=⟨fun|169=>29|n=>n,fun|70=>75|9=>9|0=>0|72=>78|37=>76|127=>123|3=>3|5=>5|n=>n,fun|n=>n⟩
theorem Tryz.laysBS:Go.Proofs.Lays.n169 Tryz.prog Tryz.laysBS_ren:={
 mixed:=by kernel_rfl
 f169:=Tryz.func29.trans (congrArg some (by kernel_rfl))
 t0:=Tryz.underlying0
 a0:=Tryz.isAgg0
 z0:=Tryz.sizeOf0
 v0:=Tryz.zeroValue0
 t3:=Tryz.underlying3
 a3:=Tryz.isAgg3
 z3:=Tryz.sizeOf3
 v3:=Tryz.zeroValue3
 t9:=Tryz.underlying9
 a9:=Tryz.isAgg9
 z9:=Tryz.sizeOf9
 v9:=Tryz.zeroValue9
 t37:=Tryz.underlying76
 a37:=Tryz.isAgg76
 z37:=Tryz.sizeOf76
 v37:=Tryz.zeroValue76
 t70:=Tryz.underlying75
 a70:=Tryz.isAgg75
 z70:=Tryz.sizeOf75
 v70:=Tryz.zeroValue75
 t72:=Tryz.underlying78
 a72:=Tryz.isAgg78
 z72:=Tryz.sizeOf78
 v72:=Tryz.zeroValue78
 t127:=Tryz.underlying123
 a127:=Tryz.isAgg123
 z127:=Tryz.sizeOf123
 v127:=Tryz.zeroValue123 }
theorem Tryz.extBS:Builder.Extra Tryz.prog Tryz.laysBS_ren where
 sizeBuilder:=by kernel_rfl
 liesBuilder:=by kernel_rfl
 t5:=Tryz.underlying5
 a5:=Tryz.isAgg5
 z5:=Tryz.sizeOf5
 v5:=Tryz.zeroValue5
 infoByte:=by kernel_rfl
 cellsByte:=by kernel_rfl
 sizeByte:=by kernel_rfl
 neB5:=by decide
def Tryz.laysLe_ren:Go.Shelf.Ren:=⟨fun|170=>270|n=>n,fun|70=>75|3=>3|0=>0|72=>78|37=>76|5=>5|n=>n,fun|n=>n⟩
theorem Tryz.laysLe:Go.Proofs.Lays.n170 Tryz.prog Tryz.laysLe_ren:={
 mixed:=by kernel_rfl
 f170:=Tryz.func270.trans (congrArg some (by kernel_rfl))
 t0:=Tryz.underlying0
 a0:=Tryz.isAgg0
 z0:=Tryz.sizeOf0
 v0:=Tryz.zeroValue0
 t3:=Tryz.underlying3
 a3:=Tryz.isAgg3
 z3:=Tryz.sizeOf3
 v3:=Tryz.zeroValue3
 t37:=Tryz.underlying76
 a37:=Tryz.isAgg76
 z37:=Tryz.sizeOf76
 v37:=Tryz.zeroValue76
 t70:=Tryz.underlying75
 a70:=Tryz.isAgg75
 z70:=Tryz.sizeOf75
 v70:=Tryz.zeroValue75
 t72:=Tryz.underlying78
 a72:=Tryz.isAgg78
 z72:=Tryz.sizeOf78
 v72:=Tryz.zeroValue78 }
def Tryz.laysJo_ren:Go.Shelf.Ren:=⟨fun|156=>58|165=>103|166=>26|169=>29|240=>59|241=>189|276=>104|277=>272|n=>n,fun|31=>26|9=>9|3=>3|4=>4|0=>0|20=>20|72=>78|76=>82|70=>75|37=>76|75=>81|127=>123|164=>165|5=>5|80=>61|n=>n,fun|n=>n⟩
theorem Tryz.laysJo:Go.Proofs.Lays.n156 Tryz.prog Tryz.laysJo_ren:={
 mixed:=by kernel_rfl
 f156:=Tryz.func58.trans (congrArg some (by kernel_rfl))
 f165:=Tryz.func103.trans (congrArg some (by kernel_rfl))
 f166:=Tryz.func26.trans (congrArg some (by kernel_rfl))
 f169:=Tryz.func29.trans (congrArg some (by kernel_rfl))
 f240:=Tryz.func59.trans (congrArg some (by kernel_rfl))
 f241:=Tryz.func189.trans (congrArg some (by kernel_rfl))
 f276:=Tryz.func104.trans (congrArg some (by kernel_rfl))
 f277:=Tryz.func272.trans (congrArg some (by kernel_rfl))
 t0:=Tryz.underlying0
 a0:=Tryz.isAgg0
 z0:=Tryz.sizeOf0
 v0:=Tryz.zeroValue0
 t3:=Tryz.underlying3
 a3:=Tryz.isAgg3
 z3:=Tryz.sizeOf3
 v3:=Tryz.zeroValue3
 t4:=Tryz.underlying4
 a4:=Tryz.isAgg4
 z4:=Tryz.sizeOf4
 v4:=Tryz.zeroValue4
 t9:=Tryz.underlying9
 a9:=Tryz.isAgg9
 z9:=Tryz.sizeOf9
 v9:=Tryz.zeroValue9
 t20:=Tryz.underlying20
 a20:=Tryz.isAgg20
 z20:=Tryz.sizeOf20
 v20:=Tryz.zeroValue20
 t31:=Tryz.underlying26
 a31:=Tryz.isAgg26
 z31:=Tryz.sizeOf26
 v31:=Tryz.zeroValue26
 t37:=Tryz.underlying76
 a37:=Tryz.isAgg76
 z37:=Tryz.sizeOf76
 v37:=Tryz.zeroValue76
 t70:=Tryz.underlying75
 a70:=Tryz.isAgg75
 z70:=Tryz.sizeOf75
 v70:=Tryz.zeroValue75
 t72:=Tryz.underlying78
 a72:=Tryz.isAgg78
 z72:=Tryz.sizeOf78
 v72:=Tryz.zeroValue78
 t75:=Tryz.underlying81
 a75:=Tryz.isAgg81
 z75:=Tryz.sizeOf81
 v75:=Tryz.zeroValue81
 t76:=Tryz.underlying82
 a76:=Tryz.isAgg82
 z76:=Tryz.sizeOf82
 v76:=Tryz.zeroValue82
 t127:=Tryz.underlying123
 a127:=Tryz.isAgg123
 z127:=Tryz.sizeOf123
 v127:=Tryz.zeroValue123
 t164:=Tryz.underlying165
 a164:=Tryz.isAgg165
 z164:=Tryz.sizeOf165
 v164:=Tryz.zeroValue165 }
def Tryz.laysIt_ren:Go.Shelf.Ren:=⟨fun|171=>27|243=>60|246=>105|283=>190|284=>191|285=>192|286=>193|129=>163|317=>273|318=>274|319=>275|320=>276|337=>348|338=>349|n=>n,fun|3=>3|9=>9|2=>2|4=>4|171=>233|0=>0|53=>180|37=>76|5=>5|173=>235|212=>311|51=>213|20=>20|213=>312|46=>152|232=>394|233=>395|n=>n,fun|17=>1|18=>6|19=>7|n=>n⟩
theorem Tryz.laysIt:Go.Proofs.LaysM.n171 Tryz.prog Tryz.laysIt_ren:={
 mixed:=by kernel_rfl
 f129:=Tryz.func163.trans (congrArg some (by kernel_rfl))
 f171:=Tryz.func27.trans (congrArg some (by kernel_rfl))
 f243:=Tryz.func60.trans (congrArg some (by kernel_rfl))
 f246:=Tryz.func105.trans (congrArg some (by kernel_rfl))
 f283:=Tryz.func190.trans (congrArg some (by kernel_rfl))
 f284:=Tryz.func191.trans (congrArg some (by kernel_rfl))
 f285:=Tryz.func192.trans (congrArg some (by kernel_rfl))
 f286:=Tryz.func193.trans (congrArg some (by kernel_rfl))
 f317:=Tryz.func273.trans (congrArg some (by kernel_rfl))
 f318:=Tryz.func274.trans (congrArg some (by kernel_rfl))
 f319:=Tryz.func275.trans (congrArg some (by kernel_rfl))
 f320:=Tryz.func276.trans (congrArg some (by kernel_rfl))
 f337:=Tryz.func348.trans (congrArg some (by kernel_rfl))
 f338:=Tryz.func349.trans (congrArg some (by kernel_rfl))
 t0:=Tryz.underlying0
 a0:=Tryz.isAgg0
 z0:=Tryz.sizeOf0
 v0:=Tryz.zeroValue0
 t2:=Tryz.underlying2
 a2:=Tryz.isAgg2
 z2:=Tryz.sizeOf2
 v2:=Tryz.zeroValue2
 t3:=Tryz.underlying3
 a3:=Tryz.isAgg3
 z3:=Tryz.sizeOf3
 v3:=Tryz.zeroValue3
 t4:=Tryz.underlying4
 a4:=Tryz.isAgg4
 z4:=Tryz.sizeOf4
 v4:=Tryz.zeroValue4
 t5:=Tryz.underlying5
 a5:=Tryz.isAgg5
 z5:=Tryz.sizeOf5
 v5:=Tryz.zeroValue5
 t9:=Tryz.underlying9
 a9:=Tryz.isAgg9
 z9:=Tryz.sizeOf9
 v9:=Tryz.zeroValue9
 t20:=Tryz.underlying20
 a20:=Tryz.isAgg20
 z20:=Tryz.sizeOf20
 v20:=Tryz.zeroValue20
 t37:=Tryz.underlying76
 a37:=Tryz.isAgg76
 z37:=Tryz.sizeOf76
 v37:=Tryz.zeroValue76
 t46:=Tryz.underlying152
 a46:=Tryz.isAgg152
 z46:=Tryz.sizeOf152
 v46:=Tryz.zeroValue152
 t51:=Tryz.underlying213
 a51:=Tryz.isAgg213
 z51:=Tryz.sizeOf213
 v51:=Tryz.zeroValue213
 t53:=Tryz.underlying180
 a53:=Tryz.isAgg180
 z53:=Tryz.sizeOf180
 v53:=Tryz.zeroValue180
 t171:=Tryz.underlying233
 a171:=Tryz.isAgg233
 z171:=Tryz.sizeOf233
 v171:=Tryz.zeroValue233
 t173:=Tryz.underlying235
 a173:=Tryz.isAgg235
 z173:=Tryz.sizeOf235
 v173:=Tryz.zeroValue235
 t212:=Tryz.underlying311
 a212:=Tryz.isAgg311
 z212:=Tryz.sizeOf311
 v212:=Tryz.zeroValue311
 t213:=Tryz.underlying312
 a213:=Tryz.isAgg312
 z213:=Tryz.sizeOf312
 t232:=Tryz.underlying394
 a232:=Tryz.isAgg394
 z232:=Tryz.sizeOf394
 v232:=Tryz.zeroValue394
 t233:=Tryz.underlying395
 a233:=Tryz.isAgg395
 z233:=Tryz.sizeOf395
 v233:=Tryz.zeroValue395
 g17:=by kernel_rfl
 g18:=by kernel_rfl
 g19:=by kernel_rfl
 i0:=by kernel_rfl
 i2:=by kernel_rfl
 i3:=by kernel_rfl
 i4:=by kernel_rfl
 i5:=by kernel_rfl
 i9:=by kernel_rfl
 i20:=by kernel_rfl
 i37:=by kernel_rfl
 i46:=by kernel_rfl
 i51:=by kernel_rfl
 i53:=by kernel_rfl
 i171:=by kernel_rfl
 i173:=by kernel_rfl
 i212:=by kernel_rfl
 i232:=by kernel_rfl
 i233:=by kernel_rfl
 m17:=by kernel_rfl
 m18:=by kernel_rfl
 m19:=by kernel_rfl }
def Tryz.laysCu_ren:Go.Shelf.Ren:=⟨fun|145=>23|220=>52|219=>96|217=>168|225=>169|224=>170|267=>171|266=>250|314=>251|n=>n,fun|9=>9|4=>4|59=>70|3=>3|5=>5|46=>152|146=>292|51=>213|n=>n,fun|1=>0|n=>n⟩
theorem Tryz.laysCu:Go.Proofs.Lays.n145 Tryz.prog Tryz.laysCu_ren:={
 mixed:=by kernel_rfl
 f145:=Tryz.func23.trans (congrArg some (by kernel_rfl))
 f217:=Tryz.func168.trans (congrArg some (by kernel_rfl))
 f219:=Tryz.func96.trans (congrArg some (by kernel_rfl))
 f220:=Tryz.func52.trans (congrArg some (by kernel_rfl))
 f224:=Tryz.func170.trans (congrArg some (by kernel_rfl))
 f225:=Tryz.func169.trans (congrArg some (by kernel_rfl))
 f266:=Tryz.func250.trans (congrArg some (by kernel_rfl))
 f267:=Tryz.func171.trans (congrArg some (by kernel_rfl))
 f314:=Tryz.func251.trans (congrArg some (by kernel_rfl))
 t3:=Tryz.underlying3
 a3:=Tryz.isAgg3
 z3:=Tryz.sizeOf3
 v3:=Tryz.zeroValue3
 t4:=Tryz.underlying4
 a4:=Tryz.isAgg4
 z4:=Tryz.sizeOf4
 v4:=Tryz.zeroValue4
 t5:=Tryz.underlying5
 a5:=Tryz.isAgg5
 z5:=Tryz.sizeOf5
 v5:=Tryz.zeroValue5
 t9:=Tryz.underlying9
 a9:=Tryz.isAgg9
 z9:=Tryz.sizeOf9
 v9:=Tryz.zeroValue9
 t46:=Tryz.underlying152
 a46:=Tryz.isAgg152
 z46:=Tryz.sizeOf152
 v46:=Tryz.zeroValue152
 t51:=Tryz.underlying213
 a51:=Tryz.isAgg213
 z51:=Tryz.sizeOf213
 v51:=Tryz.zeroValue213
 t59:=Tryz.underlying70
 a59:=Tryz.isAgg70
 z59:=Tryz.sizeOf70
 v59:=Tryz.zeroValue70
 t146:=Tryz.underlying292
 a146:=Tryz.isAgg292
 z146:=Tryz.sizeOf292
 v146:=Tryz.zeroValue292
 g1:=by kernel_rfl }
def Tryz.laysSp_ren:Go.Shelf.Ren:=⟨fun|146=>22|221=>51|268=>93|138=>94|143=>95|195=>165|197=>166|218=>167|219=>96|260=>249|217=>168|225=>169|224=>170|267=>171|266=>250|314=>251|n=>n,fun|9=>9|31=>26|3=>3|4=>4|0=>0|105=>216|21=>21|5=>5|46=>152|119=>354|139=>357|138=>356|146=>292|51=>213|n=>n,fun|1=>0|3=>2|4=>3|n=>n⟩
theorem Tryz.laysSp:Go.Proofs.Lays.n146 Tryz.prog Tryz.laysSp_ren:={
 mixed:=by kernel_rfl
 f138:=Tryz.func94.trans (congrArg some (by kernel_rfl))
 f143:=Tryz.func95.trans (congrArg some (by kernel_rfl))
 f146:=Tryz.func22.trans (congrArg some (by kernel_rfl))
 f195:=Tryz.func165.trans (congrArg some (by kernel_rfl))
 f197:=Tryz.func166.trans (congrArg some (by kernel_rfl))
 f217:=Tryz.func168.trans (congrArg some (by kernel_rfl))
 f218:=Tryz.func167.trans (congrArg some (by kernel_rfl))
 f219:=Tryz.func96.trans (congrArg some (by kernel_rfl))
 f221:=Tryz.func51.trans (congrArg some (by kernel_rfl))
 f224:=Tryz.func170.trans (congrArg some (by kernel_rfl))
 f225:=Tryz.func169.trans (congrArg some (by kernel_rfl))
 f260:=Tryz.func249.trans (congrArg some (by kernel_rfl))
 f266:=Tryz.func250.trans (congrArg some (by kernel_rfl))
 f267:=Tryz.func171.trans (congrArg some (by kernel_rfl))
 f268:=Tryz.func93.trans (congrArg some (by kernel_rfl))
 f314:=Tryz.func251.trans (congrArg some (by kernel_rfl))
 t0:=Tryz.underlying0
 a0:=Tryz.isAgg0
 z0:=Tryz.sizeOf0
 v0:=Tryz.zeroValue0
 t3:=Tryz.underlying3
 a3:=Tryz.isAgg3
 z3:=Tryz.sizeOf3
 v3:=Tryz.zeroValue3
 t4:=Tryz.underlying4
 a4:=Tryz.isAgg4
 z4:=Tryz.sizeOf4
 v4:=Tryz.zeroValue4
 t5:=Tryz.underlying5
 a5:=Tryz.isAgg5
 z5:=Tryz.sizeOf5
 v5:=Tryz.zeroValue5
 t9:=Tryz.underlying9
 a9:=Tryz.isAgg9
 z9:=Tryz.sizeOf9
 v9:=Tryz.zeroValue9
 t21:=Tryz.underlying21
 a21:=Tryz.isAgg21
 z21:=Tryz.sizeOf21
 v21:=Tryz.zeroValue21
 t31:=Tryz.underlying26
 a31:=Tryz.isAgg26
 z31:=Tryz.sizeOf26
 v31:=Tryz.zeroValue26
 t46:=Tryz.underlying152
 a46:=Tryz.isAgg152
 z46:=Tryz.sizeOf152
 v46:=Tryz.zeroValue152
 t51:=Tryz.underlying213
 a51:=Tryz.isAgg213
 z51:=Tryz.sizeOf213
 v51:=Tryz.zeroValue213
 t105:=Tryz.underlying216
 a105:=Tryz.isAgg216
 z105:=Tryz.sizeOf216
 v105:=Tryz.zeroValue216
 t119:=Tryz.underlying354
 a119:=Tryz.isAgg354
 z119:=Tryz.sizeOf354
 t138:=Tryz.underlying356
 a138:=Tryz.isAgg356
 z138:=Tryz.sizeOf356
 v138:=Tryz.zeroValue356
 t139:=Tryz.underlying357
 a139:=Tryz.isAgg357
 z139:=Tryz.sizeOf357
 v139:=Tryz.zeroValue357
 t146:=Tryz.underlying292
 a146:=Tryz.isAgg292
 z146:=Tryz.sizeOf292
 v146:=Tryz.zeroValue292
 g1:=by kernel_rfl
 g3:=by kernel_rfl
 g4:=by kernel_rfl }
def Tryz.laysAt_ren:Go.Shelf.Ren:=⟨fun|172=>99|244=>180|245=>181|247=>256|279=>257|280=>258|281=>259|282=>260|287=>337|316=>338|171=>27|205=>339|321=>371|322=>372|243=>60|246=>105|283=>190|284=>191|285=>192|286=>193|129=>163|317=>273|318=>274|319=>275|320=>276|337=>348|338=>349|n=>n,fun|9=>9|3=>3|75=>81|76=>82|4=>4|5=>5|167=>295|37=>76|0=>0|85=>296|2=>2|168=>298|53=>180|175=>363|46=>152|210=>367|127=>123|145=>391|143=>389|21=>21|171=>233|173=>235|212=>311|51=>213|20=>20|213=>312|232=>394|233=>395|80=>61|n=>n,fun|15=>4|16=>5|17=>1|18=>6|19=>7|n=>n⟩
theorem Tryz.laysAt:Go.Proofs.Lays.n172 Tryz.prog Tryz.laysAt_ren:={
 mixed:=by kernel_rfl
 f129:=Tryz.func163.trans (congrArg some (by kernel_rfl))
 f171:=Tryz.func27.trans (congrArg some (by kernel_rfl))
 f172:=Tryz.func99.trans (congrArg some (by kernel_rfl))
 f205:=Tryz.func339.trans (congrArg some (by kernel_rfl))
 f243:=Tryz.func60.trans (congrArg some (by kernel_rfl))
 f244:=Tryz.func180.trans (congrArg some (by kernel_rfl))
 f245:=Tryz.func181.trans (congrArg some (by kernel_rfl))
 f246:=Tryz.func105.trans (congrArg some (by kernel_rfl))
 f247:=Tryz.func256.trans (congrArg some (by kernel_rfl))
 f279:=Tryz.func257.trans (congrArg some (by kernel_rfl))
 f280:=Tryz.func258.trans (congrArg some (by kernel_rfl))
 f281:=Tryz.func259.trans (congrArg some (by kernel_rfl))
 f282:=Tryz.func260.trans (congrArg some (by kernel_rfl))
 f283:=Tryz.func190.trans (congrArg some (by kernel_rfl))
 f284:=Tryz.func191.trans (congrArg some (by kernel_rfl))
 f285:=Tryz.func192.trans (congrArg some (by kernel_rfl))
 f286:=Tryz.func193.trans (congrArg some (by kernel_rfl))
 f287:=Tryz.func337.trans (congrArg some (by kernel_rfl))
 f316:=Tryz.func338.trans (congrArg some (by kernel_rfl))
 f317:=Tryz.func273.trans (congrArg some (by kernel_rfl))
 f318:=Tryz.func274.trans (congrArg some (by kernel_rfl))
 f319:=Tryz.func275.trans (congrArg some (by kernel_rfl))
 f320:=Tryz.func276.trans (congrArg some (by kernel_rfl))
 f321:=Tryz.func371.trans (congrArg some (by kernel_rfl))
 f322:=Tryz.func372.trans (congrArg some (by kernel_rfl))
 f337:=Tryz.func348.trans (congrArg some (by kernel_rfl))
 f338:=Tryz.func349.trans (congrArg some (by kernel_rfl))
 t0:=Tryz.underlying0
 a0:=Tryz.isAgg0
 z0:=Tryz.sizeOf0
 v0:=Tryz.zeroValue0
 t2:=Tryz.underlying2
 a2:=Tryz.isAgg2
 z2:=Tryz.sizeOf2
 v2:=Tryz.zeroValue2
 t3:=Tryz.underlying3
 a3:=Tryz.isAgg3
 z3:=Tryz.sizeOf3
 v3:=Tryz.zeroValue3
 t4:=Tryz.underlying4
 a4:=Tryz.isAgg4
 z4:=Tryz.sizeOf4
 v4:=Tryz.zeroValue4
 t5:=Tryz.underlying5
 a5:=Tryz.isAgg5
 z5:=Tryz.sizeOf5
 v5:=Tryz.zeroValue5
 t9:=Tryz.underlying9
 a9:=Tryz.isAgg9
 z9:=Tryz.sizeOf9
 v9:=Tryz.zeroValue9
 t20:=Tryz.underlying20
 a20:=Tryz.isAgg20
 z20:=Tryz.sizeOf20
 v20:=Tryz.zeroValue20
 t21:=Tryz.underlying21
 a21:=Tryz.isAgg21
 z21:=Tryz.sizeOf21
 v21:=Tryz.zeroValue21
 t37:=Tryz.underlying76
 a37:=Tryz.isAgg76
 z37:=Tryz.sizeOf76
 v37:=Tryz.zeroValue76
 t46:=Tryz.underlying152
 a46:=Tryz.isAgg152
 z46:=Tryz.sizeOf152
 v46:=Tryz.zeroValue152
 t51:=Tryz.underlying213
 a51:=Tryz.isAgg213
 z51:=Tryz.sizeOf213
 v51:=Tryz.zeroValue213
 t53:=Tryz.underlying180
 a53:=Tryz.isAgg180
 z53:=Tryz.sizeOf180
 v53:=Tryz.zeroValue180
 t75:=Tryz.underlying81
 a75:=Tryz.isAgg81
 z75:=Tryz.sizeOf81
 v75:=Tryz.zeroValue81
 t76:=Tryz.underlying82
 a76:=Tryz.isAgg82
 z76:=Tryz.sizeOf82
 v76:=Tryz.zeroValue82
 t85:=Tryz.underlying296
 a85:=Tryz.isAgg296
 z85:=Tryz.sizeOf296
 v85:=Tryz.zeroValue296
 t127:=Tryz.underlying123
 a127:=Tryz.isAgg123
 z127:=Tryz.sizeOf123
 v127:=Tryz.zeroValue123
 t143:=Tryz.underlying389
 a143:=Tryz.isAgg389
 z143:=Tryz.sizeOf389
 v143:=Tryz.zeroValue389
 t145:=Tryz.underlying391
 a145:=Tryz.isAgg391
 z145:=Tryz.sizeOf391
 v145:=Tryz.zeroValue391
 t167:=Tryz.underlying295
 a167:=Tryz.isAgg295
 z167:=Tryz.sizeOf295
 v167:=Tryz.zeroValue295
 t168:=Tryz.underlying298
 a168:=Tryz.isAgg298
 z168:=Tryz.sizeOf298
 v168:=Tryz.zeroValue298
 t171:=Tryz.underlying233
 a171:=Tryz.isAgg233
 z171:=Tryz.sizeOf233
 v171:=Tryz.zeroValue233
 t173:=Tryz.underlying235
 a173:=Tryz.isAgg235
 z173:=Tryz.sizeOf235
 v173:=Tryz.zeroValue235
 t175:=Tryz.underlying363
 a175:=Tryz.isAgg363
 z175:=Tryz.sizeOf363
 v175:=Tryz.zeroValue363
 t210:=Tryz.underlying367
 a210:=Tryz.isAgg367
 z210:=Tryz.sizeOf367
 v210:=Tryz.zeroValue367
 t212:=Tryz.underlying311
 a212:=Tryz.isAgg311
 z212:=Tryz.sizeOf311
 v212:=Tryz.zeroValue311
 t213:=Tryz.underlying312
 a213:=Tryz.isAgg312
 z213:=Tryz.sizeOf312
 t232:=Tryz.underlying394
 a232:=Tryz.isAgg394
 z232:=Tryz.sizeOf394
 v232:=Tryz.zeroValue394
 t233:=Tryz.underlying395
 a233:=Tryz.isAgg395
 z233:=Tryz.sizeOf395
 v233:=Tryz.zeroValue395
 g15:=by kernel_rfl
 g16:=by kernel_rfl
 g17:=by kernel_rfl
 g18:=by kernel_rfl
 g19:=by kernel_rfl }
theorem Tryz.extJo:Builder.Extra Tryz.prog Tryz.laysJo_ren where
 sizeBuilder:=by kernel_rfl
 liesBuilder:=by kernel_rfl
 t5:=Tryz.underlying5
 a5:=Tryz.isAgg5
 z5:=Tryz.sizeOf5
 v5:=Tryz.zeroValue5
 infoByte:=by kernel_rfl
 cellsByte:=by kernel_rfl
 sizeByte:=by kernel_rfl
 neB5:=by decide
end Go.Proofs
