/- a part of the proof -/
import Derived.Test.YtpklcnmcllbbjaaGreatDoorJbb
import Derived.Deep.Slices
import Derived.Test.YtpklcnmcllbbjaaGreatDoorJav
import Derived.Test.YtpklcnmcllbbjaaGreatDoorJaz
import Derived.Test.YtpklcnmcllbbjaaGreatDoorJaa
import Derived.Test.YtpklcnmcllbbjaaGreatDoorJzL
set_option linter.all false
set_option maxHeartbeats 4000000
set_option maxRecDepth 100000
namespace Go.Va
open Go.Proofs Go.RowKit
theorem MH{tm:Array Value}(h:tm.size=62): ∃x0 x1 x2 x3 x4 x5 x6 x7 x8 x9 x10 x11 x12 x13 x14 x15 x16 x17 x18 x19 x20 x21 x22 x23 x24 x25 x26 x27 x28 x29 x30 x31 x32 x33 x34 x35 x36 x37 x38 x39 x40 x41 x42 x43 x44 x45 x46 x47 x48 x49 x50 x51 x52 x53 x54 x55 x56 x57 x58 x59 x60 x61:Value,tm= #[x0,x1,x2,x3,x4,x5,x6,x7,x8,x9,x10,x11,x12,x13,x14,x15,x16,x17,x18,x19,x20,x21,x22,x23,x24,x25,x26,x27,x28,x29,x30,x31,x32,x33,x34,x35,x36,x37,x38,x39,x40,x41,x42,x43,x44,x45,x46,x47,x48,x49,x50,x51,x52,x53,x54,x55,x56,x57,x58,x59,x60,x61]:=by
 obtain⟨l⟩:=tm
 have h0:l.length=62:=by simpa using h
 obtain⟨x0,l0,e0,h1⟩:=AK h0
 subst e0;obtain⟨x1,l1,e1,h2⟩:=AK h1;subst e1;obtain⟨x2,l2,e2,h3⟩:=AK h2;subst e2;obtain⟨x3,l3,e3,h4⟩:=AK h3;subst e3;obtain⟨x4,l4,e4,h5⟩:=AK h4;subst e4;obtain⟨x5,l5,e5,h6⟩:=AK h5;subst e5;obtain⟨x6,l6,e6,h7⟩:=AK h6;subst e6;obtain⟨x7,l7,e7,h8⟩:=AK h7;subst e7;obtain⟨x8,l8,e8,h9⟩:=AK h8;subst e8;obtain⟨x9,l9,e9,h10⟩:=AK h9;subst e9;obtain⟨x10,l10,e10,h11⟩:=AK h10;subst e10;obtain⟨x11,l11,e11,h12⟩:=AK h11;subst e11;obtain⟨x12,l12,e12,h13⟩:=AK h12;subst e12;obtain⟨x13,l13,e13,h14⟩:=AK h13;subst e13;obtain⟨x14,l14,e14,h15⟩:=AK h14;subst e14;obtain⟨x15,l15,e15,h16⟩:=AK h15;subst e15;obtain⟨x16,l16,e16,h17⟩:=AK h16;subst e16;obtain⟨x17,l17,e17,h18⟩:=AK h17;subst e17;obtain⟨x18,l18,e18,h19⟩:=AK h18;subst e18;obtain⟨x19,l19,e19,h20⟩:=AK h19;subst e19;obtain⟨x20,l20,e20,h21⟩:=AK h20;subst e20;obtain⟨x21,l21,e21,h22⟩:=AK h21;subst e21;obtain⟨x22,l22,e22,h23⟩:=AK h22;subst e22;obtain⟨x23,l23,e23,h24⟩:=AK h23;subst e23;obtain⟨x24,l24,e24,h25⟩:=AK h24;subst e24;obtain⟨x25,l25,e25,h26⟩:=AK h25;subst e25;obtain⟨x26,l26,e26,h27⟩:=AK h26;subst e26;obtain⟨x27,l27,e27,h28⟩:=AK h27;subst e27;obtain⟨x28,l28,e28,h29⟩:=AK h28;subst e28;obtain⟨x29,l29,e29,h30⟩:=AK h29;subst e29;obtain⟨x30,l30,e30,h31⟩:=AK h30;subst e30;obtain⟨x31,l31,e31,h32⟩:=AK h31;subst e31;obtain⟨x32,l32,e32,h33⟩:=AK h32;subst e32;obtain⟨x33,l33,e33,h34⟩:=AK h33;subst e33;obtain⟨x34,l34,e34,h35⟩:=AK h34;subst e34;obtain⟨x35,l35,e35,h36⟩:=AK h35;subst e35;obtain⟨x36,l36,e36,h37⟩:=AK h36;subst e36;obtain⟨x37,l37,e37,h38⟩:=AK h37;subst e37;obtain⟨x38,l38,e38,h39⟩:=AK h38;subst e38;obtain⟨x39,l39,e39,h40⟩:=AK h39;subst e39;obtain⟨x40,l40,e40,h41⟩:=AK h40;subst e40;obtain⟨x41,l41,e41,h42⟩:=AK h41;subst e41;obtain⟨x42,l42,e42,h43⟩:=AK h42;subst e42;obtain⟨x43,l43,e43,h44⟩:=AK h43;subst e43;obtain⟨x44,l44,e44,h45⟩:=AK h44;subst e44;obtain⟨x45,l45,e45,h46⟩:=AK h45;subst e45;obtain⟨x46,l46,e46,h47⟩:=AK h46;subst e46;obtain⟨x47,l47,e47,h48⟩:=AK h47;subst e47;obtain⟨x48,l48,e48,h49⟩:=AK h48;subst e48;obtain⟨x49,l49,e49,h50⟩:=AK h49;subst e49;obtain⟨x50,l50,e50,h51⟩:=AK h50;subst e50;obtain⟨x51,l51,e51,h52⟩:=AK h51;subst e51;obtain⟨x52,l52,e52,h53⟩:=AK h52;subst e52;obtain⟨x53,l53,e53,h54⟩:=AK h53;subst e53;obtain⟨x54,l54,e54,h55⟩:=AK h54;subst e54;obtain⟨x55,l55,e55,h56⟩:=AK h55;subst e55;obtain⟨x56,l56,e56,h57⟩:=AK h56;subst e56;obtain⟨x57,l57,e57,h58⟩:=AK h57;subst e57;obtain⟨x58,l58,e58,h59⟩:=AK h58;subst e58;obtain⟨x59,l59,e59,h60⟩:=AK h59;subst e59;obtain⟨x60,l60,e60,h61⟩:=AK h60;subst e60;obtain⟨x61,l61,e61,h62⟩:=AK h61;subst e61;obtain rfl:l61=[]:=jzv.1 h62;exact⟨x0,x1,x2,x3,x4,x5,x6,x7,x8,x9,x10,x11,x12,x13,x14,x15,x16,x17,x18,x19,x20,x21,x22,x23,x24,x25,x26,x27,x28,x29,x30,x31,x32,x33,x34,x35,x36,x37,x38,x39,x40,x41,x42,x43,x44,x45,x46,x47,x48,x49,x50,x51,x52,x53,x54,x55,x56,x57,x58,x59,x60,x61,rfl⟩
structure MidT2 (bx:Array Value) (w:World) (l:List UInt8) (w':World):Prop where
 b:Bld w.heap.size (w.heap.size+1) l w'
 below:Below w.heap.size w w'
 box:w'.heap[w.heap.size]? =some (.cells bx 25 (0,0))
theorem MidT2.cell{bx:Array Value}{w w':World}{l:List UInt8}(h:MidT2 bx w l w'){k:Nat}{v:Value}(hv:bx[k]? =some v):w'.cell? ⟨w.heap.size,k,none⟩=some v:=by
 rw[Lib.cell_of_heap h.box];exact hv
theorem MidT2.old{bx:Array Value}{w w':World}{l:List UInt8}(h:MidT2 bx w l w'){p:Addr}{v:Value}(hv:w.cell? p=some v):w'.cell? p=some v:=
 (h.below.cell (World.block_lt_of_cell? _ _ hv)).trans hv
theorem MidT2.next{bx:Array Value}{w w1 w2:World}{l l':List UInt8}(h:MidT2 bx w l w1)(hw:Ig w.heap.size (w.heap.size+1) l' w1 w2):MidT2 bx w l' w2 where
 b:=hw.1
 below:=h.below.trans hw.2.1
 box:=hw.2.2.1 _ _ h.box (by simp) (fun c fz e=>by simp at e)
theorem Lh{w:World}{k:Nat}{x:Obj}(h:w.heap[k]? =some x):k<w.heap.size:=(Array.getElem?_eq_some_iff.1 h).1
theorem Bld.ext{B b:Nat}{l:List UInt8}{w w':World}(h:Bld B b l w)(hb:Below w.heap.size w w'):Bld B b l w':=by
 have key: ∀p,Lib.BuilderAtF 64 5 B b p (Lib.byteCells l) w→Lib.BuilderAtF 64 5 B b p (Lib.byteCells l) w':=by
  rintro p ⟨hB,v,hk,⟨hl,hc⟩,hne⟩
  refine⟨hB,v,(hb.block _ (Lh hk)).trans hk,⟨hl,?_⟩,hne⟩
  rcases hc with hc|⟨g,cap,cur,fz,h1,h2,h3,h4⟩
  ·exact .inl hc
  ·exact .inr ⟨g,cap,cur,fz,h1,h2,(hb.block _ (Lh h3)).trans h3,h4⟩
 exact h.imp (key _) (key _)
theorem MidT2.ext{bx:Array Value}{w w1 w2:World}{l:List UInt8}(h:MidT2 bx w l w1)(hb:Below w1.heap.size w1 w2):MidT2 bx w l w2 where
 b:=h.b.ext hb
 below:=h.below.trans (hb.mono h.below.size)
 box:=(hb.block _ (Lh h.box)).trans h.box
theorem ZO(w:World)(x:Obj):(w.alloc x).heap.size=w.heap.size+1:=by
 show(w.heap.push x).size=_
 simp
theorem MidT2.new(w:World)(bx:Array Value):MidT2 bx w [] ((w.alloc (.cells bx 25)).alloc (.cells #[.pointer none,.slice none 0 0] 64)) where
 b:= .inl ⟨by omega,.slice none 0 0,by
  show((w.heap.push _).push _)[w.heap.size+1]? =some _
  have h:w.heap.size+1=(w.heap.push (Obj.cells bx 25)).size:=by simp
  rw[h,Array.getElem?_push_size],⟨rfl,.inl ⟨rfl,rfl⟩⟩,by simp[Value.ownBlock]⟩
 below:=((Below.refl _ w).alloc (AO _) _).alloc (by rw[ZO];omega) _
 box:=by
  show((w.heap.push _).push _)[w.heap.size]? =some _
  rw[Array.getElem?_push_lt (by simp)]
  simp
theorem DA{w:World}{Z:Addr→Prop}{n:Nat}{cs:List D}{v:Value}(h:RepD w Z (.slice n cs) v): ∃p c,v= .slice p n c∧ ∀(j:Nat) (x:D),cs[j]? =some x→ ∃g o u,p=some ⟨g,o,none⟩∧w.cell? ⟨g,o+j,none⟩=some u∧RepD w Z x u:=by
 cases h with
 |snil=>exact⟨none,0,rfl,fun j x hx=>by cases hx⟩
 |slice n cs a c us hs hn hc h1 h2 h3=>
  refine⟨some a,c,rfl,fun j x hx=> ?_⟩
  have hsp:=hs (fun e=>by rw[e]at hx;cases hx)
  obtain⟨g,o,sp⟩:=a
  simp only at hsp;subst hsp;exact⟨g,o,us j,rfl,h1 j x hx,h3 j x hx⟩
theorem OP{w:World}{Z:Addr→Prop}{E:Type}{n:Nat}{e:E→List D}(he: ∀x,(e x).length=n){l:List E}{p:Option Addr}{i:Nat}(h:i<l.length)(h0:0<n)
  (hc: ∀(j:Nat) (x:D),(l.flatMap e)[j]? =some x→ ∃g o u,p=some ⟨g,o,none⟩∧w.cell? ⟨g,o+j,none⟩=some u∧RepD w Z x u):
  ∃(g o:Nat) (us:List Value),p=some ⟨g,o,none⟩∧us.length=n∧(∀k u,us[k]? =some u→w.cell? ⟨g,o+i*n+k,none⟩=some u)∧RepL (RepD w Z) (e l[i]) us:=by
 have at_: ∀k,k<n→(l.flatMap e)[i*n+k]? =(e l[i])[k]? :=fun k hk=>by
  have:=congrArg (fun r:List D=>r[k]?) (Ic he l i h)
  simpa [List.getElem?_take,List.getElem?_drop,hk]using this
 obtain⟨g,o,u0,hp,_,_⟩:=hc (i*n+0) ((e l[i])[0]'(by rw[he];omega)) (by rw[at_ 0 h0,AD])
 have each: ∀k,k<n→ ∃u,w.cell? ⟨g,o+(i*n+k),none⟩=some u∧ ∀x,(e l[i])[k]? =some x→RepD w Z x u:=fun k hk=>by
  have hx:(e l[i])[k]? =some ((e l[i])[k]'(by rw[he];omega)):=AD _
  obtain⟨g',o',u,hp',hu,hr⟩:=hc (i*n+k) _ ((at_ k hk).trans hx)
  rw[hp]at hp'
  cases hp'
  exact⟨u,hu,fun x h2=>by rw[hx]at h2;cases h2;exact hr⟩
 obtain⟨q,hq⟩:=Go.Deep.choose_lt each
 refine⟨g,o,(List.range n).map q,hp,by simp,fun k u hu=> ?_,by simp[he],fun k x u hx hu=> ?_⟩
 ·simp only[Bf,jze]at hu;obtain⟨k',hk',rfl⟩:=hu;have:=jzg.1 hk';obtain⟨hlt,he2⟩:=this;simp at hlt he2;subst he2;rw[Nat.add_assoc];exact(hq k hlt).1
 ·simp only[Bf,jze]at hu;obtain⟨k',hk',rfl⟩:=hu;have:=jzg.1 hk';obtain⟨hlt,he2⟩:=this;simp at hlt he2;subst he2;exact(hq k hlt).2 x hx
theorem ZOk.below{w w':World}{Z:Addr→Prop}(h:ZOk w Z Z)(hb:Below w.heap.size w w'):ZOk w' Z Z where
 lt:=fun ad hz=>Nat.lt_of_lt_of_le (h ad hz) hb.size
 gl:=fun k hk=>⟨Nat.lt_of_lt_of_le (h.gl k hk).1 hb.size,(h.gl k hk).2⟩
 gw:=h.gw.keep fun k hk=>hb.block k (h.gl k hk).1
theorem NL{P:Program}{f:FuncId}{xs:List A}{s:ByteArray}{e:Int}(h:CallsF P f xs (.tup [.c (.d (.str s)),.c (.d (.int .i64 e))]))(w:World)(Z:Addr→Prop)(vals:List Value)(hZ:ZOk w Z Z)(hv:RepL (A.rep w Z) xs vals):
  Calls P f vals.toArray w fun en w'=>en= .returned (.tuple #[.string s,.int .i64 e])∧Below w.heap.size w w':=by
 refine(h.2 w Z vals hZ hv).mono ?_
 rintro en w' ⟨v,rfl,hx,_,o,_,hr⟩
 obtain⟨vs,rfl,hl,hr⟩:=(hr 0).1
 match vs,hl with
 |[v0,v1],_=>
  have q0:RepD w' _ (.str s) v0:=hr 0 _ _ rfl rfl;have q1:RepD w' _ (.int .i64 e) v1:=hr 1 _ _ rfl rfl;cases q0;cases q1;exact⟨rfl,hx.toBelow⟩
theorem X7{P:Program}{f:FuncId}{xs:List A}{s:ByteArray}(h:CallsF P f xs (.u (.c (.d (.str s)))))(w:World)(Z:Addr→Prop)(vals:List Value)(hZ:ZOk w Z Z)(hv:RepL (A.rep w Z) xs vals):
  Calls P f vals.toArray w fun en w'=>en= .returned (.string s)∧Below w.heap.size w w':=by
 refine(h.2 w Z vals hZ hv).mono ?_
 rintro en w' ⟨v,rfl,hx,_,o,_,hr⟩
 have q0:RepD w' _ (.str s) v:=(hr 0).1;cases q0;exact⟨rfl,hx.toBelow⟩
def DK(ns:List ByteArray)(g:Grd):List UInt8:=[105,102,32]++Bq ns g++[10]
theorem UI(ds:List Der)(gs:List Grd)(ns:List ByteArray)(hd:ds.length≤12)(hg:gs.length≤12)(hx: ∀x∈ds,x.Brief)(hy: ∀g∈gs,g.args.length≤20)(hl:ns.length≤60)(hn: ∀s∈ns,s.size≤30)
  (w:World) (Z:Addr→Prop) (sl sg sn:Value) (hZ:ZOk w Z Z) (hsl:RepD w Z (Dh ds) sl) (hsg:RepD w Z (Dd gs) sg) (hsn:RepD w Z (A6 ns) sn):
  Calls Tryz.prog 7 #[.agg #[sl,sg],sn] w fun e w'=>e= .returned (.tuple #[.string (if textE ns.length ds gs=0 then Ch (C4 ns ds gs) else Ch []),.int .i64 (textE ns.length ds gs)])∧Below w.heap.size w w':=by
 obtain⟨pd,cd,rfl,hdc⟩:=DA hsl
 obtain⟨pg,cg,rfl,hgc⟩:=DA hsg
 have m0:=MidT2.new w #[.slice pd ds.length cd,.slice pg gs.length cg]
 go_enter Tryz.func7,Tryz.ntmps7
 go_wp2
 refine wp_loop (fun a2 w2=> ∃i:Nat,i≤ds.length∧BV (lineE ns.length) ds i∧a2.defers=[]∧a2.tmps.size=62∧a2.tmps.getD 1 undef=sn∧a2.tmps.getD 2 undef= .pointer (some ⟨w.heap.size,0,none⟩)∧a2.tmps.getD 6 undef= .pointer (some ⟨w.heap.size+1,0,none⟩)∧
   a2.tmps.getD 16 undef= .slice pd ds.length cd∧a2.tmps.getD 17 undef= .int .i64 ds.length∧a2.tmps.getD 18 undef= .int .i64 i∧MidT2 #[.slice pd ds.length cd,.slice pg gs.length cg] w (A1 ns ds i) w2)
  (fun a2 _=>ds.length+1 - Cl (a2.tmps.getD 18 undef)) ⟨0,Nat.zero_le _,Hi _ _,rfl,rfl,rfl,rfl,rfl,rfl,rfl,rfl,m0⟩ ?_
 clear m0;rintro⟨tm,df⟩ w2 ⟨i,hi,hok,hdf,hsz,g1,g2,g6,g16,g17,g18,hM⟩;simp only at hdf hsz g1 g2 g6 g16 g17 g18;subst hdf;obtain⟨x0,x1,x2,x3,x4,x5,x6,x7,x8,x9,x10,x11,x12,x13,x14,x15,x16,x17,x18,x19,x20,x21,x22,x23,x24,x25,x26,x27,x28,x29,x30,x31,x32,x33,x34,x35,x36,x37,x38,x39,x40,x41,x42,x43,x44,x45,x46,x47,x48,x49,x50,x51,x52,x53,x54,x55,x56,x57,x58,x59,x60,x61,rfl⟩:=MH (tm:=tm) hsz;have g1:x1=_:=g1;have g2:x2=_:=g2;have g6:x6=_:=g6;have g16:x16=_:=g16;have g17:x17=_:=g17;have g18:x18=_:=g18;subst g1 g2 g6 g16 g17 g18;clear hsz;by_cases h:i<ds.length
 ·have h':(i:Int)<(ds.length:Int):=by omega
  obtain⟨g,o,us,rfl,hul,hcs,hrs⟩:=OP Der.ds_len h (by omega) hdc
  obtain⟨u0,u1,u2,u3,u4,u5,u6,rfl⟩: ∃u0 u1 u2 u3 u4 u5 u6,us=[u0,u1,u2,u3,u4,u5,u6]:=by
   match us,hul with
   |[a,b,c,d,e,f,g],_=>exact⟨a,b,c,d,e,f,g,rfl⟩
  have c0:=hM.old (hcs 0 u0 rfl);rw[Nat.add_zero]at c0;have c1:=hM.old (hcs 1 u1 rfl);have c2:=hM.old (hcs 2 u2 rfl);have c3:=hM.old (hcs 3 u3 rfl);have c4:=hM.old (hcs 4 u4 rfl);have c5:=hM.old (hcs 5 u5 rfl);have c6:=hM.old (hcs 6 u6 rfl);have hxi:=hx _ (AZ h);have hE:=FU (e:=lineE ns.length) h hok;have hS:=GK (e:=lineE ns.length) h hok;have hW:=JJ (ns:=ns) h;have kf:=Xx ds[i] ns hxi hl hn;have hlw:=HM (i:=i) hxi hn (by omega)
  have hll:=FT hx hn hd i hi;generalize ds[i]=x at*;obtain⟨f,r,frm⟩:=x;have r0:RepD w Z (.int .i64 f.kind) u0:=hrs.2 0 _ _ rfl rfl;have r1:RepD w Z (AT f.args) u1:=hrs.2 1 _ _ rfl rfl;have r2:RepD w Z (.bool f.neg) u2:=hrs.2 2 _ _ rfl rfl;have r3:RepD w Z (Ad f.abs) u3:=hrs.2 3 _ _ rfl rfl;have r4:RepD w Z (Ad f.den) u4:=hrs.2 4 _ _ rfl rfl;have r5:RepD w Z (.int .i64 r) u5:=hrs.2 5 _ _ rfl rfl;have r6:RepD w Z (AT frm) u6:=hrs.2 6 _ _ rfl rfl;cases r0;cases r2;cases r5;obtain⟨p1,k1,rfl,_⟩:=DA r1;obtain⟨p3,k3,rfl,_⟩:=DA r3;obtain⟨p4,k4,rfl,_⟩:=DA r4;obtain⟨p6,k6,rfl,_⟩:=DA r6;have kf2: ∀W,Below w.heap.size w W→Calls Tryz.prog 17 #[.agg #[.int .i64 f.kind,.slice p1 f.args.length k1,.bool f.neg,.slice p3 f.abs.length k3,.slice p4 f.den.length k4,.int .i64 r,.slice p6 frm.length k6],x1] W fun en w'=>
    en= .returned (.tuple #[.string (if lineE ns.length ⟨f,r,frm⟩=0 then Ch (Cc ns ⟨f,r,frm⟩) else Ch []),.int .i64 (lineE ns.length ⟨f,r,frm⟩)])∧Below W.heap.size W w':=fun W hb=>by
   have hk:Keep w W Z Z:=Keep.ext ⟨hb,trivial⟩ Z;refine NL kf W Z [.agg #[_,_,_,_,_,_,_],x1] (hZ.below hb) ⟨rfl,fun j y v hy hv=> ?_⟩
   match j,hy,hv with
   |0,hy,hv=>
    cases hy;cases hv
    exact⟨_,rfl,rfl,fun j y v hy hv=>RepD.keep hk (hrs.2 j y v hy hv)⟩
   |1,hy,hv=>cases hy;cases hv;exact hsn.keep hk
  by_cases hE0:lineE ns.length ⟨f,r,frm⟩=0
  ·rw[if_pos hE0,hE0]at kf2
   have ki:=On (n:=(i:Int)) ⟨by omega,by omega⟩
   go_wp2_with (go_at_call 17;refine(kf2 _ ?hb).mono ?_)
   case hb=>exact hM.below.alloc hM.below.size _
   rintro e W3 rfl hb3
   have hM3:=(hM.ext ((Below.refl _ w2).alloc (AO _) _)).ext (by rw[ZO];exact hb3)
   clear hb3
   go_wp2_with (go_at_call 19;refine(X7 ki W3 Z [.int .i64 i] (hZ.below hM3.below) ⟨rfl,fun j y v hy hv=>by(match j,hy,hv with|0,hy,hv=>cases hy;cases hv;exact .int _ _)⟩).mono ?_)
   rintro e W4 ⟨rfl,hb4⟩
   have hM4:=hM3.ext hb4;clear hb4;have sz1:(Ch (digI (i:Int))).size≤40:=by rw[Ja];exact DX (by omega) (by omega)
   have sz2:(Ch (Cc ns ⟨f,r,frm⟩)).size≤3200:=by rw[Ja];exact Nf hxi hn
   have sn1: ¬9223372036854775807<(Ch (digI (i:Int))).size+2:=by omega
   have sn2: ¬9223372036854775807<(Ch (digI (i:Int))).size+2+(Ch (Cc ns ⟨f,r,frm⟩)).size:=by omega
   have sn3: ¬9223372036854775807<(Ch (digI (i:Int))).size+2+(Ch (Cc ns ⟨f,r,frm⟩)).size+1:=by omega
   have hstr:Ch (digI (i:Int))++{ data:= #[46,32] }++Ch (Cc ns ⟨f,r,frm⟩)++{ data:= #[10] }=⟨(CI ns i ⟨f,r,frm⟩++[10]).toArray⟩:=by
    rw[show({ data:= #[46,32] }:ByteArray)=Ch [46,32] from rfl,show({ data:= #[10] }:ByteArray)=Ch [10] from rfl,Ng,Ng,Ng]
    rfl
   go_wp2_with (go_at_call 18;refine(LE w.heap.size (w.heap.size+1) (A1 ns ds i) (CI ns i ⟨f,r,frm⟩++[10]) W4 hM4.b (by rw[List.length_append,List.length_singleton];omega) hM4.below.size).mono ?_)
   rintro e W5 ⟨rfl,pw⟩
   have hM5:=hM4.next pw;clear pw;rw[←hW]at hM5
   go_wp2
   refine⟨⟨i+1,by omega,hS hE0,trivial,rfl,rfl,rfl,rfl,rfl,rfl,rfl,hM5⟩,?_⟩
   show ds.length+1 - Cl (.int .i64 ((i:Int)+1))<ds.length+1 - Cl (.int .i64 (i:Int))
   unfold Cl;simp only;omega
  ·rw[if_neg hE0]at kf2
   have hT:textE ns.length ds gs=lineE ns.length ⟨f,r,frm⟩:=by
    unfold textE;rw[hE hE0,if_neg hE0]
   generalize lineE ns.length ⟨f,r,frm⟩=E0 at*
   go_wp2_with (go_at_call 17;refine(kf2 _ ?hb).mono ?_)
   case hb=>exact hM.below.alloc hM.below.size _
   rintro e W3 rfl hb3
   have hM3:=(hM.ext ((Below.refl _ w2).alloc (AO _) _)).ext (by rw[ZO];exact hb3)
   clear hb3
   go_wp2
   go_ret2
   exact⟨rfl,hM3.below⟩
 ·have hi2:i=ds.length:=by omega
  subst hi2;have h': ¬(ds.length:Int)<(ds.length:Int):=by omega
  have hF0:=GS hok;have hT:textE ns.length ds gs=CZ (errG ns.length) gs:=by
   unfold textE;rw[if_pos hF0]
  have hll:=FT hx hn hd ds.length (AO _);have c1:w2.cell? ⟨w.heap.size,1,none⟩=some (.slice pg gs.length cg):=hM.cell rfl
  go_wp2
  have m1:MidT2 #[.slice pd ds.length cd,.slice pg gs.length cg] w (A1 ns ds ds.length++Bn ns gs 0) w2:=by
   rw[show Bn ns gs 0=[] from rfl,List.append_nil]
   exact hM
  refine wp_loop (fun a2 w2=> ∃i:Nat,i≤gs.length∧BV (errG ns.length) gs i∧a2.defers=[]∧a2.tmps.size=62∧a2.tmps.getD 1 undef=x1∧a2.tmps.getD 6 undef= .pointer (some ⟨w.heap.size+1,0,none⟩)∧
    a2.tmps.getD 41 undef= .slice pg gs.length cg∧a2.tmps.getD 42 undef= .int .i64 gs.length∧a2.tmps.getD 43 undef= .int .i64 i∧MidT2 #[.slice pd ds.length cd,.slice pg gs.length cg] w (A1 ns ds ds.length++Bn ns gs i) w2)
   (fun a2 _=>gs.length+1 - Cl (a2.tmps.getD 43 undef)) ⟨0,Nat.zero_le _,Hi _ _,rfl,rfl,rfl,rfl,rfl,rfl,rfl,m1⟩ ?_
  clear m1 hM c1 g1 g2 hsl hdc hok;rintro⟨tm,df⟩ w3 ⟨i,hi,hok,hdf,hsz,g1,g6,g41,g42,g43,hM⟩;simp only at hdf hsz g1 g6 g41 g42 g43;subst hdf;obtain⟨y0,y1,y2,y3,y4,y5,y6,y7,y8,y9,y10,y11,y12,y13,y14,y15,y16,y17,y18,y19,y20,y21,y22,y23,y24,y25,y26,y27,y28,y29,y30,y31,y32,y33,y34,y35,y36,y37,y38,y39,y40,y41,y42,y43,y44,y45,y46,y47,y48,y49,y50,y51,y52,y53,y54,y55,y56,y57,y58,y59,y60,y61,rfl⟩:=MH (tm:=tm) hsz;have g1:y1=_:=g1;have g6:y6=_:=g6;have g41:y41=_:=g41;have g42:y42=_:=g42;have g43:y43=_:=g43;subst g1 g6 g41 g42 g43;clear hsz;have hgl:=HD hy hn i hi;by_cases h:i<gs.length
  ·have h2':(i:Int)<(gs.length:Int):=by omega
   obtain⟨g,o,us,rfl,hul,hcs,hrs⟩:=OP Grd.ds_len h (by omega) hgc
   obtain⟨u0,u1,rfl⟩: ∃u0 u1,us=[u0,u1]:=by
    match us,hul with
    |[a,b],_=>exact⟨a,b,rfl⟩
   have c0:=hM.old (hcs 0 u0 rfl);rw[Nat.add_zero]at c0;have c1:=hM.old (hcs 1 u1 rfl);have hyi:=hy _ (AZ h);have hE:=FU (e:=errG ns.length) h hok;have hS:=GK (e:=errG ns.length) h hok;have hW:Bn ns gs (i+1)=Bn ns gs i++DK ns gs[i]:=Ji (ns:=ns) h;have kf:=YY gs[i] ns hyi hl hn;have hlw:=Je hn hyi;generalize gs[i]=x at*;obtain⟨kd,args⟩:=x;have r0:RepD w Z (.int .i64 kd) u0:=hrs.2 0 _ _ rfl rfl;have r1:RepD w Z (AT args) u1:=hrs.2 1 _ _ rfl rfl;cases r0;obtain⟨p1,k1,rfl,_⟩:=DA r1;have kf2: ∀W,Below w.heap.size w W→Calls Tryz.prog 20 #[.agg #[.int .i64 kd,.slice p1 args.length k1],y1] W fun en w'=>
     en= .returned (.tuple #[.string (if errG ns.length ⟨kd,args⟩=0 then Ch (Bq ns ⟨kd,args⟩) else Ch []),.int .i64 (errG ns.length ⟨kd,args⟩)])∧Below W.heap.size W w':=fun W hb=>by
    have hk:Keep w W Z Z:=Keep.ext ⟨hb,trivial⟩ Z;refine NL kf W Z [.agg #[_,_],y1] (hZ.below hb) ⟨rfl,fun j y v hy hv=> ?_⟩
    match j,hy,hv with
    |0,hy,hv=>
     cases hy;cases hv
     exact⟨_,rfl,rfl,fun j y v hy hv=>RepD.keep hk (hrs.2 j y v hy hv)⟩
    |1,hy,hv=>cases hy;cases hv;exact hsn.keep hk
   by_cases hE0:errG ns.length ⟨kd,args⟩=0
   ·rw[if_pos hE0,hE0]at kf2
    have sz2:(Ch (Bq ns ⟨kd,args⟩)).size≤700:=by rw[Ja];exact hlw
    have sn1: ¬9223372036854775807<3+(Ch (Bq ns ⟨kd,args⟩)).size:=by omega
    have sn2: ¬9223372036854775807<3+(Ch (Bq ns ⟨kd,args⟩)).size+1:=by omega
    have hstr:{ data:= #[105,102,32] }++Ch (Bq ns ⟨kd,args⟩)++{ data:= #[10] }=(⟨(DK ns ⟨kd,args⟩).toArray⟩:ByteArray):=by
     rw[show({ data:= #[105,102,32] }:ByteArray)=Ch [105,102,32] from rfl,show({ data:= #[10] }:ByteArray)=Ch [10] from rfl,Ng,Ng]
     rfl
    have hgll:(DK ns ⟨kd,args⟩).length≤704:=by
     unfold DK;simp only[List.length_append,List.length_cons,List.length_nil];omega
    have hpre:(A1 ns ds ds.length++Bn ns gs i).length+(DK ns ⟨kd,args⟩).length≤100000000:=by rw[List.length_append];omega
    go_wp2_with (go_at_call 20;refine(kf2 _ ?hb).mono ?_)
    case hb=>exact hM.below.alloc hM.below.size _
    rintro e W3 rfl hb3
    have hM3:=(hM.ext ((Below.refl _ w3).alloc (AO _) _)).ext (by rw[ZO];exact hb3)
    clear hb3;have hws:=LE w.heap.size (w.heap.size+1) (A1 ns ds ds.length++Bn ns gs i) (DK ns ⟨kd,args⟩) W3 hM3.b hpre hM3.below.size;generalize (⟨(DK ns ⟨kd,args⟩).toArray⟩:ByteArray)=GL at*
    go_wp2_with (go_at_call 18;refine hws.mono ?_)
    rintro e W5 ⟨rfl,pw⟩
    have hM5:=hM3.next pw;clear pw;rw[List.append_assoc (A1 ns ds ds.length),←hW]at hM5
    go_wp2
    refine⟨⟨i+1,by omega,hS hE0,trivial,rfl,rfl,rfl,rfl,rfl,rfl,hM5⟩,?_⟩
    show gs.length+1 - Cl (.int .i64 ((i:Int)+1))<gs.length+1 - Cl (.int .i64 (i:Int))
    unfold Cl;simp only;omega
   ·rw[if_neg hE0]at kf2
    rw[hE hE0]at hT
    generalize errG ns.length ⟨kd,args⟩=E0 at*
    go_wp2_with (go_at_call 20;refine(kf2 _ ?hb).mono ?_)
    case hb=>exact hM.below.alloc hM.below.size _
    rintro e W3 rfl hb3
    have hM3:=(hM.ext ((Below.refl _ w3).alloc (AO _) _)).ext (by rw[ZO];exact hb3)
    clear hb3
    go_wp2
    go_ret2
    exact⟨rfl,hM3.below⟩
  ·have hi2:i=gs.length:=by omega
   subst hi2;have h2': ¬(gs.length:Int)<(gs.length:Int):=by omega
   rw[GS hok]at hT
   have hW:Ch (C4 ns ds gs)=⟨(A1 ns ds ds.length++Bn ns gs gs.length).toArray⟩:=rfl
   go_wp2_with (go_at_call 21;refine(MT w.heap.size (w.heap.size+1) (A1 ns ds ds.length++Bn ns gs gs.length) _ hM.b hM.below.size).mono ?_)
   rintro e W6 rfl p2 _
   go_wp2
   go_ret2
   exact⟨rfl,hM.below.trans p2⟩
theorem NE(ds:List Der)(gs:List Grd)(ns:List ByteArray)(hd:ds.length≤12)(hg:gs.length≤12)(hx: ∀x∈ds,x.Brief)(hy: ∀g∈gs,g.args.length≤20)(hl:ns.length≤60)(hn: ∀s∈ns,s.size≤30):
  CallsF Tryz.prog 7 [.agg [Dh ds,Dd gs],.c (A6 ns)] (Br (textE ns.length ds gs) (C4 ns ds gs)):=by
 refine Jv (ds:=[.str (if textE ns.length ds gs=0 then Ch (C4 ns ds gs) else Ch []),.int .i64 (textE ns.length ds gs)]) (D8 Tryz.func7 rfl (by decide)) fun w Z vals hZ hvs=> ?_
 match vals,hvs.1 with
 |[v0,v1],_=>
  obtain⟨vs,rfl,hl2,hv2⟩:=hvs.2 0 _ _ rfl rfl
  have hsn:RepD w Z (A6 ns) v1:=hvs.2 1 _ _ rfl rfl
  match vs,hl2 with
  |[x0,x1],_=>
   have r0:RepD w Z (Dh ds) x0:=hv2 0 _ _ rfl rfl;have r1:RepD w Z (Dd gs) x1:=hv2 1 _ _ rfl rfl;refine(UI ds gs ns hd hg hx hy hl hn w Z x0 x1 v1 hZ r0 r1 hsn).mono ?_;rintro e w' ⟨rfl,hb⟩;refine⟨[_,_],rfl,hb,rfl,fun j x v hx hv=> ?_⟩
   match j,hx,hv with
   |0,hx,hv=>cases hx;cases hv;exact .str _
   |1,hx,hv=>cases hx;cases hv;exact .int _ _
end Go.Va
namespace Go.Va
open Int renaming natCast_add → qA, natCast_mul → qB, natCast_emod → qC, natCast_ediv → qD, natCast_pow → qE
open List renaming reduceReplicate → qF
open Go.Proofs
def smlF(f:Fct):Bool:=decide (f.args.length≤20)&&(decide (f.abs.length≤2)&&decide (f.den.length≤2))
theorem jbp(f:Fct):CallsF Tryz.prog 9 [.agg f.ds] (.u (.c (.d (.bool (smlF f))))):=by
 obtain⟨r,hr⟩: ∃r,r=smlF f:=⟨_,rfl⟩
 rw[←hr]
 unfold smlF at hr;obtain⟨kind,args,neg,abs,den⟩:=f;simp only[Fct.ds]at*;refine cO Tryz.func9 rfl ?_;by_cases c1:args.length≤20
 ·by_cases c2:abs.length≤2
  ·by_cases c3:den.length≤2
   ·simp -implicitDefEqProofs[jJ,-qA,-qB,c1,c2,c3,hr]
   ·simp -implicitDefEqProofs[jJ,-qA,-qB,c1,c2,c3,hr]
  ·simp -implicitDefEqProofs[jJ,-qA,-qB,c1,c2,hr]
 ·simp -implicitDefEqProofs[jJ,-qA,-qB,c1,hr]
def DW(ns:List ByteArray):Bool:=decide (ns.length≤60)&&ns.all fun s=>decide (s.size≤30)
theorem Qj(ns:List ByteArray):CallsF Tryz.prog 5 [.c (A6 ns)] (.u (.c (.d (.bool (DW ns))))):=by
 obtain⟨r,hr⟩: ∃r,r=DW ns:=⟨_,rfl⟩
 rw[←hr]
 unfold DW at hr;unfold A6;refine cO Tryz.func5 rfl ?_;by_cases c0:ns.length≤60
 case neg=>
  have e1:60<ns.length:=by omega
  rw[decide_eq_false c0,Bool.false_and]at hr
  subst hr;simp -implicitDefEqProofs[jJ,-qA,-qB,e1]
 have e1: ¬60<ns.length:=by omega
 rw[decide_eq_true c0,Bool.true_and]at hr
 simp -implicitDefEqProofs[jJ,-qA,-qB,e1];refine AV (fun i:Nat=>⟨[(3,vI .i64 i),(0,vC (.d (EC D.str ns)))],[]⟩)
  (fun i=>i≤ns.length∧CB (fun s:ByteArray=>decide (s.size≤30)) ns i) (fun i=>ns.length - i) 0 (by simp[AW,lk,St.le,vI,vC]) ⟨by omega,HJ _ _⟩ ?_
 rintro i ⟨hi,he⟩
 by_cases h:i<ns.length
 ·have g0:ns[i]? =some ns[i]:=AD h
  have hs:=fun q=>Iu h he q
  have hn:=fun q=>Is h (p:=fun s:ByteArray=>decide (s.size≤30)) q
  clear he;by_cases c1:ns[i].size≤30
  ·have d1: ¬30<ns[i].size:=by omega
   simp -implicitDefEqProofs[jJ,-qA,-qB,h,g0,d1];exact⟨by omega,⟨by omega,hs (by simp[c1])⟩,by omega⟩
  ·have d1:30<ns[i].size:=by omega
   rw[hn (by simp[c1])]at hr
   subst hr;simp -implicitDefEqProofs[jJ,-qA,-qB,h,g0,d1]
 ·have hi2:i=ns.length:=by omega
  subst hi2;rw[HZ he]at hr;subst hr;simp -implicitDefEqProofs[jJ,-qA,-qB]
def FM(x:Der):Bool:=decide (x.frm.length≤20)&&smlF x.fact
def Fo(g:Grd):Bool:=decide (g.args.length≤20)
def EM(ds:List Der)(gs:List Grd):Bool:=decide (ds.length≤12)&&(decide (gs.length≤12)&&(ds.all FM&&gs.all Fo))
theorem jaJ(ds:List Der)(gs:List Grd):CallsF Tryz.prog 4 [.agg [Dh ds,Dd gs]] (.u (.c (.d (.bool (EM ds gs))))):=by
 obtain⟨r,hr⟩: ∃r,r=EM ds gs:=⟨_,rfl⟩
 rw[←hr]
 unfold EM at hr;refine cO Tryz.func4 rfl ?_;simp only[Dh,Dd]at*;by_cases h40:ds.length≤12
 case neg=>
  have e1:12<ds.length:=by omega
  rw[decide_eq_false h40,Bool.false_and]at hr
  subst hr;simp -implicitDefEqProofs[jJ,-qA,-qB,-qF,e1]
 by_cases h20:gs.length≤12
 case neg=>
  have e1: ¬12<ds.length:=by omega
  have e2:12<gs.length:=by omega
  rw[decide_eq_false h20,Bool.false_and,Bool.and_false]at hr
  subst hr;simp -implicitDefEqProofs[jJ,-qA,-qB,-qF,e1,e2]
 have e1: ¬12<ds.length:=by omega
 have e2: ¬12<gs.length:=by omega
 rw[decide_eq_true h40,decide_eq_true h20,Bool.true_and,Bool.true_and]at hr
 simp -implicitDefEqProofs[jJ,-qA,-qB,-qF,e1,e2];refine AV (fun i:Nat=>⟨[(3,vI .i64 i),(1,vC (.ptr 1 0))],[(1,.box [.d (.slice ds.length (ds.flatMap Der.ds)),.d (.slice gs.length (gs.flatMap Grd.ds))])]⟩)
  (fun i=>i≤ds.length∧CB FM ds i) (fun i=>ds.length - i) 0 (by simp[AW,lk,St.le,vI,vC]) ⟨by omega,HJ _ _⟩ ?_
 rintro i ⟨hi,he⟩
 by_cases h:i<ds.length
 ·have g:=Kp ds i h;have b1:i*7+7≤ds.length*7:=by omega
  have hs:=fun q=>Iu h he q
  have hn:=fun q=>Is h (p:=FM) q
  have hX:FM ds[i]=(decide (ds[i].frm.length≤20)&&smlF ds[i].fact):=rfl
  have ks:=jbp ds[i].fact;clear he;generalize ds[i]=x at*;obtain⟨f,rr,l⟩:=x;simp only[Fct.ds]at*;generalize smlF f=q at*;by_cases c0:l.length≤20
  ·have d0: ¬20<l.length:=by omega
   cases q with
   |true=>
    simp -implicitDefEqProofs[jJ,-qA,-qB,-qF,h,g,d0];refine⟨by omega,?_⟩
    (first|refine Ac ks ?_|refine Ae ks ?_)
    simp -implicitDefEqProofs[jJ,-qA,-qB,-qF];exact⟨by omega,⟨by omega,hs (by rw[hX];simp[c0])⟩,by omega⟩
   |false=>
    rw[hn (by rw[hX];simp),Bool.false_and]at hr
    subst hr;simp -implicitDefEqProofs[jJ,-qA,-qB,-qF,h,g,d0];refine⟨by omega,?_⟩
    (first|refine Ac ks ?_|refine Ae ks ?_)
    simp -implicitDefEqProofs[jJ,-qA,-qB,-qF]
  ·rw[hn (by rw[hX];simp[c0]),Bool.false_and]at hr
   subst hr;have d0:20<l.length:=by omega
   simp -implicitDefEqProofs[jJ,-qA,-qB,-qF,h,g,d0];omega
 ·have hi2:i=ds.length:=by omega
  subst hi2;rw[HZ he,Bool.true_and]at hr;simp -implicitDefEqProofs[jJ,-qA,-qB,-qF];refine AV (fun i:Nat=>⟨[(5,vI .i64 i),(1,vC (.ptr 1 0))],[(1,.box [.d (.slice ds.length (ds.flatMap Der.ds)),.d (.slice gs.length (gs.flatMap Grd.ds))])]⟩)
   (fun i=>i≤gs.length∧CB Fo gs i) (fun i=>gs.length - i) 0 (by simp[AW,lk,St.le,vI,vC]) ⟨by omega,HJ _ _⟩ ?_
  rintro i ⟨hi,he⟩
  by_cases h:i<gs.length
  ·have g:=L3 gs i h;have b1:i*2+2≤gs.length*2:=by omega
   have hs:=fun q=>Iu h he q
   have hn:=fun q=>Is h (p:=Fo) q
   have g1:(gs.flatMap Grd.ds)[i*2+1]? =some (AT gs[i].args):=by
    have:=congrArg (fun l:List D=>l[1]?) (O1 gs i h)
    simpa [List.getElem?_take,List.getElem?_drop,Grd.ds]using this
   have hX:Fo gs[i]=decide (gs[i].args.length≤20):=rfl
   clear he;generalize gs[i]=x at*;obtain⟨k,l⟩:=x;simp only at*;by_cases c0:l.length≤20
   ·have d0: ¬20<l.length:=by omega
    simp -implicitDefEqProofs[jJ,-qA,-qB,-qF,h,g,g1,d0];exact⟨by omega,⟨by omega,hs (by rw[hX];simp[c0])⟩,by omega⟩
   ·rw[hn (by rw[hX];simp[c0])]at hr
    subst hr;have d0:20<l.length:=by omega
    simp -implicitDefEqProofs[jJ,-qA,-qB,-qF,h,g,g1,d0]
  ·have hi2:i=gs.length:=by omega
   subst hi2;rw[HZ he]at hr;subst hr;simp -implicitDefEqProofs[jJ,-qA,-qB,-qF]
end Go.Va
namespace Go.Va
mutual
def CC:D→D→Bool
 | .int k n,.int k' n'=>decide (k=k')&&decide (n=n')
 | .bool b,.bool b'=>b==b'
 | .str s,.str s'=>decide (s.data.toList=s'.data.toList)
 | .slice n cs,.slice n' cs'=>Nat.beq n n'&&C2 cs cs'
 | .ref cs,.ref cs'=>C2 cs cs'
 | .fn f cs,.fn f' cs'=>Nat.beq f f'&&C2 cs cs'
 | .nilFn,.nilFn=>true
 | .nilPtr,.nilPtr=>true
 | .iface t cs,.iface t' cs'=>Nat.beq t t'&&C2 cs cs'
 |_,_=>false
def C2:List D→List D→Bool
 |[],[]=>true
 |x::r,y::s=>CC x y&&C2 r s
 |_,_=>false
end
mutual
theorem JU: ∀{x y:D},CC x y=true→x=y
 | .int k n,y,h=>by
  cases y<;>simp[CC]at h
  rw[h.1,h.2]
 | .bool b,y,h=>by
  cases y<;>simp[CC]at h
  rw[h]
 | .str s,y,h=>by
  cases y<;>simp[CC]at h
  rename_i s'
  obtain⟨a⟩:=s
  obtain⟨b⟩:=s'
  simp only at h;rw[h]
 | .slice n cs,y,h=>by
  cases y<;>simp[CC]at h
  rw[h.1,Ed h.2]
 | .ref cs,y,h=>by
  cases y<;>simp[CC]at h
  rw[Ed h]
 | .fn f cs,y,h=>by
  cases y<;>simp[CC]at h
  rw[h.1,Ed h.2]
 | .nilFn,y,h=>by
  cases y<;>simp[CC]at h
  rfl
 | .nilPtr,y,h=>by
  cases y<;>simp[CC]at h
  rfl
 | .iface t cs,y,h=>by
  cases y<;>simp[CC]at h
  rw[h.1,Ed h.2]
 | .lit x,y,h=>by cases y<;>simp[CC]at h
 | .any,y,h=>by cases y<;>simp[CC]at h
theorem Ed: ∀{l m:List D},C2 l m=true→l=m
 |[],[],_=>rfl
 |[],_::_,h=>by simp[C2]at h
 |_::_,[],h=>by simp[C2]at h
 |x::r,y::s,h=>by
  simp only[C2,AR]at h;rw[JU h.1,Ed h.2]
end
def Kd:A→A→Bool
 | .c x,.c y=>CC x y
 | .agg xs,.agg ys=>C2 xs ys
 |_,_=>false
theorem S7{x y:A}(h:Kd x y=true):x=y:=by
 cases x<;>cases y<;>simp only[Kd,Bool.false_eq_true]at h
 ·rw[JU h]
 ·rw[Ed h]
def B8{α:Type}(e:α→α→Bool):List α→List α→Bool
 |[],[]=>true
 |x::r,y::s=>e x y&&B8 e r s
 |_,_=>false
theorem Cw{α:Type}{e:α→α→Bool}(he: ∀x y,e x y=true→x=y): ∀{l m:List α},B8 e l m=true→l=m
 |[],[],_=>rfl
 |[],_::_,h=>by simp[B8]at h
 |_::_,[],h=>by simp[B8]at h
 |x::r,y::s,h=>by
  simp only[B8,AR]at h;rw[he _ _ h.1,Cw he h.2]
def E1:C→C→Bool
 | .d x,.d y=>CC x y
 | .nl,.nl=>true
 | .sl i o n,.sl j p m=>Nat.beq i j&&(Nat.beq o p&&Nat.beq n m)
 | .ptr i o,.ptr j p=>Nat.beq i j&&Nat.beq o p
 | .bad,.bad=>true
 | .mp q i,.mp r j=>(q==r)&&Nat.beq i j
 |_,_=>false
theorem Gk(x y:C)(h:E1 x y=true):x=y:=by
 cases x<;>cases y<;>simp[E1]at h
 ·rw[JU h]
 ·rfl
 ·rw[h.1,h.2.1,h.2.2]
 ·rw[h.1,h.2]
 ·rfl
 ·rw[h.1,h.2]
def HH:U→U→Bool
 | .c x,.c y=>E1 x y
 | .agg xs,.agg ys=>B8 E1 xs ys
 | .clo f xs,.clo g ys=>Nat.beq f g&&B8 E1 xs ys
 |_,_=>false
theorem LM(x y:U)(h:HH x y=true):x=y:=by
 cases x<;>cases y<;>simp only[HH,Bool.false_eq_true,AR,Nat.beq_eq]at h
 ·rw[Gk _ _ h]
 ·rw[Cw Gk h]
 ·rw[h.1,Cw Gk h.2]
def L1:Ky→Ky→Bool
 | .s a,.s b=>decide (a.data.toList=b.data.toList)
 | .n a,.n b=>decide (a=b)
 |_,_=>false
def Lm(x y:Ky×Int):Bool:=L1 x.1 y.1&&decide (x.2=y.2)
theorem jkg(x y:Ky×Int)(h:Lm x y=true):x=y:=by
 obtain⟨x,n⟩:=x
 obtain⟨y,m⟩:=y
 simp only[Lm,AR,decide_eq_true_eq]at h;obtain⟨h1,rfl⟩:=h;unfold L1 at h1;split at h1
 ·rename_i a b
  obtain⟨⟨a⟩⟩:=a
  obtain⟨⟨b⟩⟩:=b
  simp only[decide_eq_true_eq]at h1;rw[h1]
 ·rw[of_decide_eq_true h1]
 ·cases h1
def MP:Blk→Blk→Bool
 | .row a cs p,.row b ds q=>Nat.beq a b&&(C2 cs ds&&(p==q))
 | .box cs,.box ds=>B8 E1 cs ds
 | .fbox f cs,.fbox g ds=>Nat.beq f g&&B8 E1 cs ds
 | .mp (.mp es),.mp (.mp fs)=>B8 Lm es fs
 | .mp (.it s p),.mp (.it t q)=>decide (s.data.toList=t.data.toList)&&Nat.beq p q
 | .gh cs,.gh ds=>B8 E1 cs ds
 |_,_=>false
theorem ZR{x y:Blk}(h:MP x y=true):x=y:=by
 unfold MP at h;split at h
 ·simp only[AR,Nat.beq_eq,beq_iff_eq]at h;rw[h.1,Ed h.2.1,h.2.2]
 ·rw[Cw Gk h]
 ·simp only[AR,Nat.beq_eq]at h;rw[h.1,Cw Gk h.2]
 ·rw[Cw jkg h]
 ·rename_i s p t q
  obtain⟨⟨a⟩⟩:=s
  obtain⟨⟨b⟩⟩:=t
  simp only[AR,decide_eq_true_eq,Nat.beq_eq]at h;rw[h.1,h.2]
 ·rw[Cw Gk h]
 ·cases h
def Kc(x y:Nat×Blk):Bool:=Nat.beq x.1 y.1&&MP x.2 y.2
theorem N3(x y:Nat×Blk)(h:Kc x y=true):x=y:=by
 obtain⟨i,b⟩:=x
 obtain⟨j,c⟩:=y
 simp only[Kc,AR,Nat.beq_eq]at h;rw[h.1,ZR h.2]
def Mx:V→V→Bool
 | .u x,.u y=>HH x y
 | .tup xs,.tup ys=>B8 HH xs ys
 |_,_=>false
theorem jdL{x y:V}(h:Mx x y=true):x=y:=by
 cases x<;>cases y<;>simp only[Mx,Bool.false_eq_true]at h
 ·rw[LM _ _ h]
 ·rw[Cw LM h]
end Go.Va
namespace Go.Va
open Go.RowKit
variable [Gv]
def KE(k:Nat):List U→List (Nat×V)
 |[]=>[]
 |u::r=>(k,.u u)::KE (k+1) r
def St.initH(us:List U)(h:List (Nat×Blk)):St:={ t:=KE 0 us,h:=h }
def St.clean(ids:List Nat)(st:St):St:={ st.on (B1 ids)with h:=Ds (fun i=> !ids.contains i) (st.on (B1 ids)).h }
def Cv:Nat:=3000000000000
def St.initG(us:List U)(gs:List C)(h:List (Nat×Blk)):St:=St.initH us (h++[(Cv,.gh gs)])
def Lc(T:AH)(rs:List ResultVar)(gs':List C)(h':List (Nat×Blk))(v:V)(e:Exit)(st:St):Prop:=
 (e= .ret∨e= .normal)∧ ∃(r1:List (Nat×Nat)) (gs0:List C),lk Cv (rns r1 st).h=some (.gh gs0)∧gs'=gs0.map (C.on (B1 (h'.map (·.1))))∧let s:=(rns r1 st).clean (h'.map (·.1));s.res T rs=some v∧AW s.h h'
section
variable {P:Program} {T:AH} {M Z:Addr→Prop} {w0 w:World} {ρ:AE} {st:St} {a:Act}
theorem Nv(ρ:AE)(w:World)(Z:Addr→Prop)(ids:List Nat):Cf ρ (Bj ids ρ) w w Z (B1 ids):=by
 intro c v h;have hk:Keep w w (Ar ρ Z) (Ar (Bj ids ρ) Z):=Keep.mono fun ad ho=>ho.imp id fun⟨i,o,hi,ho⟩=>⟨i,o,(A9 hi).2,ho⟩
 have key: ∀i,c.id? =some i→ids.contains i=true→RepC (Bj ids ρ) w Z c v:=fun i hi hm=>RepC.keep hk (fun k hk'=>by rw[hi]at hk';cases hk';exact D5 (by simpa using hm)) h
 cases c with
 |d x=>exact RepC.keep hk (fun _ h=>by cases h) h
 |nl=>exact h
 |bad=>exact h
 |sl i off n=>
  simp only[C.on,B1];split
  ·rename_i hm;exact key i rfl hm
  ·exact RepC.one h
 |ptr i off=>
  simp only[C.on,B1];split
  ·rename_i hm;exact key i rfl hm
  ·exact RepC.one h
 |mp q i=>
  simp only[C.on,B1];split
  ·rename_i hm;exact key i rfl hm
  ·exact RepC.one h
theorem Rel.clean(h:Rel M Z w0 ρ st a w)(ids:List Nat):Rel M Z w0 (Bj ids ρ) (st.clean ids) a w where
 fr:=h.fr
 heap:=⟨⟨fun j o hj=>h.heap.owns.cells j o (A9 hj).2,fun j j' o o' hj hj'=>h.heap.owns.apart j j' o o' (A9 hj).2 (A9 hj').2,fun j o hj=>h.heap.owns.lim j o (A9 hj).2⟩,fun j b hb=>by
  simp only[St.clean]at hb;rw[FZ]at hb;split at hb
  ·cases hb
  ·rename_i hj
   simp only[St.on]at hb;rw[BN,jze]at hb;obtain⟨b0,hb0,rfl⟩:=hb;obtain⟨o,ho,hr⟩:=h.heap.rep j b0 hb0;exact⟨o,(D5 (by simpa using hj)).trans ho,hr.turn (Nv ρ w Z ids) (Keep.mono fun ad ho=>ho.imp id fun⟨i,o,hi,ho⟩=>⟨i,o,(A9 hi).2,ho⟩) (fun _ _ _=>rfl) (fun _ _ _ h=>h)⟩⟩
 mine:=fun j o ad hj=>h.mine j o ad (A9 hj).2
 out:=h.out
 mz:=h.mz
 tmps:=fun t v hv=>by
  simp only[St.clean,St.on]at hv;rw[BN,jze]at hv;obtain⟨v0,hv0,rfl⟩:=hv;exact(h.tmps t v0 hv0).turn (Nv ρ w Z ids)
 defers:=h.defers
 mps:=h.mps.sub fun j o hj _=>(A9 hj).2
theorem Nc: ∀(us:List U) (k t:Nat) (v:V),lk t (KE k us)=some v→k≤t∧ ∃u,us[t - k]? =some u∧v= .u u
 |[],_,_,_,h=>by cases h
 |c::cs,k,t,v,h=>by
  simp only[KE,lk]at h;split at h
  ·rename_i e;subst e;cases h;exact⟨AO _,c,by simp,rfl⟩
  ·obtain⟨h1,c',h2,h3⟩:=Nc cs (k+1) t v h
   exact⟨by omega,c',by rw[show t - k=t - (k+1)+1 by omega];simpa using h2,h3⟩
theorem Z3(r0:List (Nat×Nat))(hT:A5 P T)(hm:P.follows .mixedOrders=true){f:FuncId}{fn:Func}{c:Code}{us:List U}{gs gs':List C}{h h':List (Nat×Blk)}{v:V}(hf:P.funcs[f]? =some fn)(hb:fn.body=some c)
  (hname : (fn.name == "runtime.NumGoroutine") = false) (hn : us.length ≤ fn.ntmps) (hys : fn.ntmps ≤ YS) (hok : B6 fn.ntmps [] c = true) (hG : lk Cv h = none) (hng : ∀ i cs, lk i h ≠ some (.gh cs)) (hng' : ∀ i cs, lk i h' ≠ some (.gh cs))
  (hw:Bl P T c (rns r0 (St.initG us gs h)) (Lc T fn.results.toList gs' h' v)):GJ P f us gs gs' h h' v:=by
 refine⟨⟨fn,hf,by rw[hb];rfl,hname⟩,fun {G1} w Z ρ0 vals hZ hh hcz hl0 hvals=> ?_⟩
 have hlen:vals.length=us.length:=hvals.1.symm
 refine calls_of_wp hf hb ?_;generalize htm:(vals.toArray++Array.replicate (fn.ntmps - vals.toArray.size) undef)=tm;have hsz:tm.size=fn.ntmps:=by rw[←htm];simp;omega
 have hgv: ∀t,t<vals.length→tm.getD t undef=vals.getD t undef:=fun t ht=>by
  rw[←htm,Cn,Array.getElem?_append_left (by simp;omega)]
  simp
 have hG0:ρ0 Cv=none:=by
  cases hq:ρ0 Cv with
  |none=>rfl
  |some o=>have:=hl0 _ _ hq;rw[hG]at this;cases this
 have hmp0:Mps ρ0 w:=Heap.mps hh hl0
 let og:Own:={ g:=0,o:=0,sz:=0,room:=0,app:=false,nil:=true }
 let ρG:AE:=upd ρ0 Cv (some og)
 have hhas: ∀ad,¬og.has ad:=fun ad hh=>by cases hh.1
 have hgs1: ∀i o,ρG i=some o→(∃ad,o.has ad)→ρ0 i=some o:=fun i o hi ⟨ad,ha⟩=>by
  by_cases e:i=Cv
  ·subst e;simp only[ρG,BZ]at hi;cases hi;exact(hhas ad ha).elim
  ·simpa only[ρG,BG _ _ e]using hi
 have hmono: ∀i o,ρ0 i=some o→ρG i=some o:=fun i o hi=>by
  by_cases e:i=Cv
  ·subst e;rw[hG0]at hi;cases hi
  ·exact(BG _ _ e).trans hi
 have hout: ∀ad,Ar ρG Z ad→Ar ρ0 Z ad:=fun ad ho=>ho.imp id fun⟨i,o,hi,ho⟩=>⟨i,o,hgs1 i o hi ⟨ad,ho⟩,ho⟩
 have hcells: ∀ad,Cells ρG ad→Cells ρ0 ad:=fun ad ⟨i,o,hi,ho⟩=>⟨i,o,hgs1 i o hi ⟨ad,ho⟩,ho⟩
 have hC: ∀(c:C) (y:Value),RepC ρ0 w Z c y→RepC ρG w Z c y:=fun c y hr=>by
  cases c with
  |d x=>exact RepD.keep (Keep.mono hout) hr
  |nl=>exact hr
  |bad=>exact hr
  |sl i off n=>obtain⟨o,ho,r⟩:=hr;exact⟨o,hmono i o ho,r⟩
  |ptr i off=>obtain⟨o,ho,r⟩:=hr;exact⟨o,hmono i o ho,r⟩
  |mp q i=>obtain⟨o,ho,r⟩:=hr;exact⟨o,hmono i o ho,r⟩
 have hU: ∀(u:U) (y:Value),RepU ρ0 w Z u y→RepU ρG w Z u y:=fun u y hr=>by
  cases u with
  |c x=>exact hC x y hr
  |agg cs=>obtain⟨vs,hv,hl,hr⟩:=hr;exact⟨vs,hv,hl,fun j x v hx hv=>hC x v (hr j x v hx hv)⟩
  |clo f cs=>obtain⟨vs,hv,hl,hr⟩:=hr;exact⟨vs,hv,hl,fun j x v hx hv=>hC x v (hr j x v hx hv)⟩
 have hmpG:Mps ρG w:=fun i o hi hm=>by
  by_cases e:i=Cv
  ·subst e;simp only[ρG,BZ]at hi;cases hi;cases hm.2
  ·simp only[ρG,BG _ _ e]at hi;exact hmp0 i o hi hm
 obtain⟨hho,hhr⟩:=hh
 let G2:Gv:=⟨fun j y=> ∃x,gs[j]? =some x∧RepC ρ0 w Z x y⟩
 have hheapG: @Heap G2 ρG w Z (h++[(Cv,.gh gs)]):=⟨⟨fun i o hi hg j hj=>by
   by_cases e:i=Cv
   ·subst e;simp only[ρG,BZ]at hi;cases hi;cases hg
   ·simp only[ρG,BG _ _ e]at hi;exact hho.cells i o hi hg j hj,
  fun i i' o o' hi hi' hne ad ho ho'=>hho.apart i i' o o' (hgs1 i o hi ⟨ad,ho⟩) (hgs1 i' o' hi' ⟨ad,ho'⟩) hne ad ho ho',
  fun i o hi=>by
   by_cases e:i=Cv
   ·subst e;simp only[ρG,BZ]at hi;cases hi;exact Nat.zero_le _
   ·simp only[ρG,BG _ _ e]at hi;exact hho.lim i o hi⟩,fun i b hb=>by
  rw[HQ]at hb
  cases hl:lk i h with
  |some b2=>
   rw[hl]at hb
   have hb:b2=b:=Bi hb
   subst hb;obtain⟨o,ho,hr⟩:=hhr i _ hl;refine⟨o,hmono i o ho,?_⟩;cases b2 with
   |row sz cs app=>obtain⟨q1,q2,q3,q4,q5⟩:=hr;exact⟨q1,q2,q3,q4,fun j x hx=>by obtain⟨v,hv,hd⟩:=q5 j x hx;exact⟨v,hv,hd.keep (Keep.mono hout)⟩⟩
   |box cs=>obtain⟨q1,q2,q3,q4⟩:=hr;exact⟨q1,q2,q3,fun j x hx=>by obtain⟨v,hv,h1,hd⟩:=q4 j x hx;exact⟨v,hv,h1,hC _ _ hd⟩⟩
   |fbox f cs=>obtain⟨q1,q2,q3,v,hv,vs,hvs,hl,hd⟩:=hr;exact⟨q1,q2,q3,v,hv,vs,hvs,hl,fun j x u hx hu=>hC _ _ (hd j x u hx hu)⟩
   |mp x=>exact hr
   |gh cs=>exact absurd hl (hng i cs)
  |none=>
   rw[hl]at hb
   simp only[Option.none_or,lk]at hb;split at hb
   ·rename_i e
    subst e;cases hb;exact⟨og,BZ _ _ _,rfl,⟨rfl,rfl⟩,fun j x hx y ⟨x',hx',hr⟩=>by rw[hx]at hx';cases hx';exact hC _ _ hr⟩
   ·cases hb⟩
 have hrel: @Rel G2 (Cells ρ0) Z w ρG (St.initG us gs h) { tmps:=tm,defers:=[] } w:=
  {fr:=⟨rfl,DR.refl _,rfl,rfl,AO _,fun a v _ h=>h,fun _ _ _=>rfl,fun _ _ _=>rfl⟩
   heap:=hheapG
   mine:=fun i o ad hi ho=> .inl (hcells ad ⟨i,o,hi,ho⟩)
   out:=hZ
   mz:=hcz
   tmps:=fun t v hv=>by
    obtain⟨_,u,hu,rfl⟩:=Nc us 0 t v hv
    simp only[Nat.sub_zero]at hu;have ht:t<vals.length:=by rw[hlen];exact(jzg.1 hu).1
    rw[hgv t ht]
    exact hU _ _ (hvals.2 t u _ hu (by simp[ht]))
   defers:=rfl
   mps:=hmpG }
 have htr: ∀x r,lk YS (rns r0 (St.initG us gs h)).t≠some (.tr x r):=fun x r hx=>by
  have hx:=TrLe.rns r0 (s:=St.initG us gs h) _ _ hx;obtain⟨_,_,_,he⟩:=Nc us 0 YS _ hx;cases he
 obtain⟨ρi,hrel1⟩:=Rel.rns r0 hrel
 have hc:=Dr (P:=P) (T:=T) (X:=⟨Cells ρ0,Z,w,fn.ntmps,[],fun k=>tm.getD k undef,none,fun _=>False,fun _=>False⟩) hT (fun Y' h=>by cases h) hm c (Lc T fn.results.toList gs' h' v) _ w hok
  ⟨_,_,_,_,_,⟨fun k hk=>rfl,fun _=>⟨rfl,rfl,rfl⟩,hrel.fr.mono fun _ h=> .inl h,fun _ h=>h,fun _ h=> .inl h,fun x r hx=>absurd hx (htr x r)⟩,hrel1,hsz,hw⟩
 refine hc.mono' fun e a' w' hg=> ?_
 obtain⟨M1,Z1,w1,ρ1,st,hL,h1,h2,hend,r1,gs0,hgh,rfl,hres,hhp⟩:=hg
 obtain⟨rfl,rfl,rfl⟩:=hL.plain rfl
 obtain⟨ρ,h3⟩:=Rel.rns r1 h1
 have h4:=Rel.clean h3 (h'.map (·.1));obtain⟨x,hx,hrx⟩:=GT (P:=P) hT h4 hres;have hpost: ∃ρ',Fr (Cells ρ0) w1 w'∧ @Heap G1 ρ' w' Z1 h'∧(∀i o,ρ' i=some o→(lk i h').isSome=true)∧(∀ad,Cells ρ' ad→Cells ρ0 ad∨w1.heap.size≤ad.block)∧
   (∀(j:Nat) (c c':C),gs[j]? =some c→(gs0.map (C.on (B1 (h'.map (·.1)))))[j]? =some c'→ ∀y,RepC ρ0 w1 Z1 c y→RepC ρ' w' Z1 c' y)∧RepV ρ' w' Z1 v x:=by
  refine⟨Bj (h'.map (·.1)) ρ,h4.fr,@Heap.mk G1 _ _ _ _ h4.heap.owns fun i b hb=> ?_,fun i o hi=>UN (A9 hi).1,fun ad ⟨i,o,hi,ho⟩=>h4.mine i o ad hi ho,fun j c c' hc hc' y hy=> ?_,hrx⟩
  ·obtain⟨o,ho,hr⟩:=h4.heap.rep i b (IN hhp i b hb)
   refine⟨o,ho,?_⟩
   cases b with
   |gh cs=>exact absurd hb (hng' i cs)
   |_=>exact hr
  ·rw[Bf,jze]at hc'
   obtain⟨c0,hc0,rfl⟩:=hc'
   obtain⟨o,ho,_,_,hr⟩:=h3.heap.rep _ _ hgh
   exact Nv ρ w' Z1 _ _ _ (hr j c0 hc0 y ⟨c,hc,hy⟩)
 rcases hend with rfl|rfl
 ·exact⟨h1.defers,x,hx,x,rfl,hpost⟩
 ·exact⟨h1.defers,x,hx,x,rfl,hpost⟩
end
end Go.Va
