/- a part of the proof -/
import Derived.Test.YtlgoebgnbkhmmaaGreatDoorZbd
import Derived.Deep.Slices
import Derived.Test.YtlgoebgnbkhmmaaGreatDoorZaa
set_option linter.all false
set_option maxHeartbeats 4000000
set_option maxRecDepth 100000
namespace Go.Va
open Go.Proofs Go.RowKit
theorem MH{tm:Array Value}(h:tm.size=62): ∃x0 x1 x2 x3 x4 x5 x6 x7 x8 x9 x10 x11 x12 x13 x14 x15 x16 x17 x18 x19 x20 x21 x22 x23 x24 x25 x26 x27 x28 x29 x30 x31 x32 x33 x34 x35 x36 x37 x38 x39 x40 x41 x42 x43 x44 x45 x46 x47 x48 x49 x50 x51 x52 x53 x54 x55 x56 x57 x58 x59 x60 x61:Value,tm= #[x0,x1,x2,x3,x4,x5,x6,x7,x8,x9,x10,x11,x12,x13,x14,x15,x16,x17,x18,x19,x20,x21,x22,x23,x24,x25,x26,x27,x28,x29,x30,x31,x32,x33,x34,x35,x36,x37,x38,x39,x40,x41,x42,x43,x44,x45,x46,x47,x48,x49,x50,x51,x52,x53,x54,x55,x56,x57,x58,x59,x60,x61]:=by
 obtain⟨l⟩:=tm
 have h0:l.length=62:=by simpa using h
 obtain⟨x0,l0,e0,h1⟩:=AK h0
 subst e0;obtain⟨x1,l1,e1,h2⟩:=AK h1;subst e1;obtain⟨x2,l2,e2,h3⟩:=AK h2;subst e2;obtain⟨x3,l3,e3,h4⟩:=AK h3;subst e3;obtain⟨x4,l4,e4,h5⟩:=AK h4;subst e4;obtain⟨x5,l5,e5,h6⟩:=AK h5;subst e5;obtain⟨x6,l6,e6,h7⟩:=AK h6;subst e6;obtain⟨x7,l7,e7,h8⟩:=AK h7;subst e7;obtain⟨x8,l8,e8,h9⟩:=AK h8;subst e8;obtain⟨x9,l9,e9,h10⟩:=AK h9;subst e9;obtain⟨x10,l10,e10,h11⟩:=AK h10;subst e10;obtain⟨x11,l11,e11,h12⟩:=AK h11;subst e11;obtain⟨x12,l12,e12,h13⟩:=AK h12;subst e12;obtain⟨x13,l13,e13,h14⟩:=AK h13;subst e13;obtain⟨x14,l14,e14,h15⟩:=AK h14;subst e14;obtain⟨x15,l15,e15,h16⟩:=AK h15;subst e15;obtain⟨x16,l16,e16,h17⟩:=AK h16;subst e16;obtain⟨x17,l17,e17,h18⟩:=AK h17;subst e17;obtain⟨x18,l18,e18,h19⟩:=AK h18;subst e18;obtain⟨x19,l19,e19,h20⟩:=AK h19;subst e19;obtain⟨x20,l20,e20,h21⟩:=AK h20;subst e20;obtain⟨x21,l21,e21,h22⟩:=AK h21;subst e21;obtain⟨x22,l22,e22,h23⟩:=AK h22;subst e22;obtain⟨x23,l23,e23,h24⟩:=AK h23;subst e23;obtain⟨x24,l24,e24,h25⟩:=AK h24;subst e24;obtain⟨x25,l25,e25,h26⟩:=AK h25;subst e25;obtain⟨x26,l26,e26,h27⟩:=AK h26;subst e26;obtain⟨x27,l27,e27,h28⟩:=AK h27;subst e27;obtain⟨x28,l28,e28,h29⟩:=AK h28;subst e28;obtain⟨x29,l29,e29,h30⟩:=AK h29;subst e29;obtain⟨x30,l30,e30,h31⟩:=AK h30;subst e30;obtain⟨x31,l31,e31,h32⟩:=AK h31;subst e31;obtain⟨x32,l32,e32,h33⟩:=AK h32;subst e32;obtain⟨x33,l33,e33,h34⟩:=AK h33;subst e33;obtain⟨x34,l34,e34,h35⟩:=AK h34;subst e34;obtain⟨x35,l35,e35,h36⟩:=AK h35;subst e35;obtain⟨x36,l36,e36,h37⟩:=AK h36;subst e36;obtain⟨x37,l37,e37,h38⟩:=AK h37;subst e37;obtain⟨x38,l38,e38,h39⟩:=AK h38;subst e38;obtain⟨x39,l39,e39,h40⟩:=AK h39;subst e39;obtain⟨x40,l40,e40,h41⟩:=AK h40;subst e40;obtain⟨x41,l41,e41,h42⟩:=AK h41;subst e41;obtain⟨x42,l42,e42,h43⟩:=AK h42;subst e42;obtain⟨x43,l43,e43,h44⟩:=AK h43;subst e43;obtain⟨x44,l44,e44,h45⟩:=AK h44;subst e44;obtain⟨x45,l45,e45,h46⟩:=AK h45;subst e45;obtain⟨x46,l46,e46,h47⟩:=AK h46;subst e46;obtain⟨x47,l47,e47,h48⟩:=AK h47;subst e47;obtain⟨x48,l48,e48,h49⟩:=AK h48;subst e48;obtain⟨x49,l49,e49,h50⟩:=AK h49;subst e49;obtain⟨x50,l50,e50,h51⟩:=AK h50;subst e50;obtain⟨x51,l51,e51,h52⟩:=AK h51;subst e51;obtain⟨x52,l52,e52,h53⟩:=AK h52;subst e52;obtain⟨x53,l53,e53,h54⟩:=AK h53;subst e53;obtain⟨x54,l54,e54,h55⟩:=AK h54;subst e54;obtain⟨x55,l55,e55,h56⟩:=AK h55;subst e55;obtain⟨x56,l56,e56,h57⟩:=AK h56;subst e56;obtain⟨x57,l57,e57,h58⟩:=AK h57;subst e57;obtain⟨x58,l58,e58,h59⟩:=AK h58;subst e58;obtain⟨x59,l59,e59,h60⟩:=AK h59;subst e59;obtain⟨x60,l60,e60,h61⟩:=AK h60;subst e60;obtain⟨x61,l61,e61,h62⟩:=AK h61;subst e61;obtain rfl:l61=[]:=jzv.1 h62;exact⟨x0,x1,x2,x3,x4,x5,x6,x7,x8,x9,x10,x11,x12,x13,x14,x15,x16,x17,x18,x19,x20,x21,x22,x23,x24,x25,x26,x27,x28,x29,x30,x31,x32,x33,x34,x35,x36,x37,x38,x39,x40,x41,x42,x43,x44,x45,x46,x47,x48,x49,x50,x51,x52,x53,x54,x55,x56,x57,x58,x59,x60,x61,rfl⟩
structure MidT2 (bx:Array Value) (w:World) (l:List UInt8) (w':World):Prop where
 b:Bld w.heap.size (w.heap.size+1) l w'
 below:Below w.heap.size w w'
 box:w'.heap[w.heap.size]? =some (.cells bx 28 (0,0))
theorem MidT2.cell{bx:Array Value}{w w':World}{l:List UInt8}(h:MidT2 bx w l w'){k:Nat}{v:Value}(hv:bx[k]? =some v):w'.cell? ⟨w.heap.size,k,none⟩=some v:=by
 rw[Lib.cell_of_heap h.box];exact hv
theorem MidT2.old{bx:Array Value}{w w':World}{l:List UInt8}(h:MidT2 bx w l w'){p:Addr}{v:Value}(hv:w.cell? p=some v):w'.cell? p=some v:=
 (h.below.cell (World.block_lt_of_cell? _ _ hv)).trans hv
theorem MidT2.next{bx:Array Value}{w w1 w2:World}{l l':List UInt8}(h:MidT2 bx w l w1)(hw:Ig w.heap.size (w.heap.size+1) l' w1 w2):MidT2 bx w l' w2 where
 b:=hw.1
 below:=h.below.trans hw.2.1
 box:=hw.2.2.1 _ _ h.box (by simp) (fun c fz e=>by simp at e)
theorem Lh{w:World}{k:Nat}{x:Obj}(h:w.heap[k]? =some x):k<w.heap.size:=(Array.getElem?_eq_some_iff.1 h).1
theorem Bld.ext{B b:Nat}{l:List UInt8}{w w':World}(h:Bld B b l w)(hb:Below w.heap.size w w'):Bld B b l w':=by
 have key: ∀p,Lib.BuilderAtF 101 5 B b p (Lib.byteCells l) w→Lib.BuilderAtF 101 5 B b p (Lib.byteCells l) w':=by
  rintro p ⟨hB,v,hk,⟨hl,hc⟩,hne⟩
  refine⟨hB,v,(hb.block _ (Lh hk)).trans hk,⟨hl,?_⟩,hne⟩
  rcases hc with hc|⟨g,cap,cur,fz,h1,h2,h3,h4⟩
  ·exact .inl hc
  ·exact .inr ⟨g,cap,cur,fz,h1,h2,(hb.block _ (Lh h3)).trans h3,h4⟩
 exact h.imp (key _) (key _)
theorem MidT2.ext{bx:Array Value}{w w1 w2:World}{l:List UInt8}(h:MidT2 bx w l w1)(hb:Below w1.heap.size w1 w2):MidT2 bx w l w2 where
 b:=h.b.ext hb
 below:=h.below.trans (hb.mono h.below.size)
 box:=(hb.block _ (Lh h.box)).trans h.box
theorem ZO(w:World)(x:Obj):(w.alloc x).heap.size=w.heap.size+1:=by
 show(w.heap.push x).size=_
 simp
theorem MidT2.new(w:World)(bx:Array Value):MidT2 bx w [] ((w.alloc (.cells bx 28)).alloc (.cells #[.pointer none,.slice none 0 0] 101)) where
 b:= .inl ⟨by omega,.slice none 0 0,by
  show((w.heap.push _).push _)[w.heap.size+1]? =some _
  have h:w.heap.size+1=(w.heap.push (Obj.cells bx 28)).size:=by simp
  rw[h,Array.getElem?_push_size],⟨rfl,.inl ⟨rfl,rfl⟩⟩,by simp[Value.ownBlock]⟩
 below:=((Below.refl _ w).alloc (AO _) _).alloc (by rw[ZO];omega) _
 box:=by
  show((w.heap.push _).push _)[w.heap.size]? =some _
  rw[Array.getElem?_push_lt (by simp)]
  simp
theorem DA{w:World}{Z:Addr→Prop}{n:Nat}{cs:List D}{v:Value}(h:RepD w Z (.slice n cs) v): ∃p c,v= .slice p n c∧ ∀(j:Nat) (x:D),cs[j]? =some x→ ∃g o u,p=some ⟨g,o,none⟩∧w.cell? ⟨g,o+j,none⟩=some u∧RepD w Z x u:=by
 cases h with
 |snil=>exact⟨none,0,rfl,fun j x hx=>by cases hx⟩
 |slice n cs a c us hs hn hc h1 h2 h3=>
  refine⟨some a,c,rfl,fun j x hx=> ?_⟩
  have hsp:=hs (fun e=>by rw[e]at hx;cases hx)
  obtain⟨g,o,sp⟩:=a
  simp only at hsp;subst hsp;exact⟨g,o,us j,rfl,h1 j x hx,h3 j x hx⟩
theorem OP{w:World}{Z:Addr→Prop}{E:Type}{n:Nat}{e:E→List D}(he: ∀x,(e x).length=n){l:List E}{p:Option Addr}{i:Nat}(h:i<l.length)(h0:0<n)
  (hc: ∀(j:Nat) (x:D),(l.flatMap e)[j]? =some x→ ∃g o u,p=some ⟨g,o,none⟩∧w.cell? ⟨g,o+j,none⟩=some u∧RepD w Z x u):
  ∃(g o:Nat) (us:List Value),p=some ⟨g,o,none⟩∧us.length=n∧(∀k u,us[k]? =some u→w.cell? ⟨g,o+i*n+k,none⟩=some u)∧RepL (RepD w Z) (e l[i]) us:=by
 have at_: ∀k,k<n→(l.flatMap e)[i*n+k]? =(e l[i])[k]? :=fun k hk=>by
  have:=congrArg (fun r:List D=>r[k]?) (Ic he l i h)
  simpa [List.getElem?_take,List.getElem?_drop,hk]using this
 obtain⟨g,o,u0,hp,_,_⟩:=hc (i*n+0) ((e l[i])[0]'(by rw[he];omega)) (by rw[at_ 0 h0,AD])
 have each: ∀k,k<n→ ∃u,w.cell? ⟨g,o+(i*n+k),none⟩=some u∧ ∀x,(e l[i])[k]? =some x→RepD w Z x u:=fun k hk=>by
  have hx:(e l[i])[k]? =some ((e l[i])[k]'(by rw[he];omega)):=AD _
  obtain⟨g',o',u,hp',hu,hr⟩:=hc (i*n+k) _ ((at_ k hk).trans hx)
  rw[hp]at hp'
  cases hp'
  exact⟨u,hu,fun x h2=>by rw[hx]at h2;cases h2;exact hr⟩
 obtain⟨q,hq⟩:=Go.Deep.choose_lt each
 refine⟨g,o,(List.range n).map q,hp,by simp,fun k u hu=> ?_,by simp[he],fun k x u hx hu=> ?_⟩
 ·simp only[Bf,jze]at hu;obtain⟨k',hk',rfl⟩:=hu;have:=jzg.1 hk';obtain⟨hlt,he2⟩:=this;simp at hlt he2;subst he2;rw[Nat.add_assoc];exact(hq k hlt).1
 ·simp only[Bf,jze]at hu;obtain⟨k',hk',rfl⟩:=hu;have:=jzg.1 hk';obtain⟨hlt,he2⟩:=this;simp at hlt he2;subst he2;exact(hq k hlt).2 x hx
theorem ZOk.below{w w':World}{Z:Addr→Prop}(h:ZOk w Z Z)(hb:Below w.heap.size w w'):ZOk w' Z Z where
 lt:=fun ad hz=>Nat.lt_of_lt_of_le (h ad hz) hb.size
 gl:=fun k hk=>⟨Nat.lt_of_lt_of_le (h.gl k hk).1 hb.size,(h.gl k hk).2⟩
 gw:=h.gw.keep fun k hk=>hb.block k (h.gl k hk).1
theorem NL{P:Program}{f:FuncId}{xs:List A}{s:ByteArray}{e:Int}(h:CallsF P f xs (.tup [.c (.d (.str s)),.c (.d (.int .i64 e))]))(w:World)(Z:Addr→Prop)(vals:List Value)(hZ:ZOk w Z Z)(hv:RepL (A.rep w Z) xs vals):
  Calls P f vals.toArray w fun en w'=>en= .returned (.tuple #[.string s,.int .i64 e])∧Below w.heap.size w w':=by
 refine(h.2 w Z vals hZ hv).mono ?_
 rintro en w' ⟨v,rfl,hx,_,o,_,hr⟩
 obtain⟨vs,rfl,hl,hr⟩:=(hr 0).1
 match vs,hl with
 |[v0,v1],_=>
  have q0:RepD w' _ (.str s) v0:=hr 0 _ _ rfl rfl;have q1:RepD w' _ (.int .i64 e) v1:=hr 1 _ _ rfl rfl;cases q0;cases q1;exact⟨rfl,hx.toBelow⟩
theorem X7{P:Program}{f:FuncId}{xs:List A}{s:ByteArray}(h:CallsF P f xs (.u (.c (.d (.str s)))))(w:World)(Z:Addr→Prop)(vals:List Value)(hZ:ZOk w Z Z)(hv:RepL (A.rep w Z) xs vals):
  Calls P f vals.toArray w fun en w'=>en= .returned (.string s)∧Below w.heap.size w w':=by
 refine(h.2 w Z vals hZ hv).mono ?_
 rintro en w' ⟨v,rfl,hx,_,o,_,hr⟩
 have q0:RepD w' _ (.str s) v:=(hr 0).1;cases q0;exact⟨rfl,hx.toBelow⟩
def DK(ns:List ByteArray)(g:Grd):List UInt8:=[105,102,32]++Bq ns g++[10]
theorem UI(ds:List Der)(gs:List Grd)(ns:List ByteArray)(hd:ds.length≤1500)(hg:gs.length≤1500)(hx: ∀x∈ds,x.Brief)(hy: ∀g∈gs,g.args.length≤20)(hl:ns.length≤60)(hn: ∀s∈ns,s.size≤30)
  (w:World) (Z:Addr→Prop) (sl sg sn:Value) (hZ:ZOk w Z Z) (hsl:RepD w Z (Dh ds) sl) (hsg:RepD w Z (Dd gs) sg) (hsn:RepD w Z (A6 ns) sn):
  Calls Tryz.prog 13 #[.agg #[sl,sg],sn] w fun e w'=>e= .returned (.tuple #[.string (if Ny ns.length ds gs=0 then Ch (C4 ns ds gs) else Ch []),.int .i64 (Ny ns.length ds gs)])∧Below w.heap.size w w':=by
 obtain⟨pd,cd,rfl,hdc⟩:=DA hsl
 obtain⟨pg,cg,rfl,hgc⟩:=DA hsg
 have m0:=MidT2.new w #[.slice pd ds.length cd,.slice pg gs.length cg]
 go_enter Tryz.func13,Tryz.ntmps13
 go_wp2
 refine wp_loop (fun a2 w2=> ∃i:Nat,i≤ds.length∧BV (lineE ns.length) ds i∧a2.defers=[]∧a2.tmps.size=62∧a2.tmps.getD 1 undef=sn∧a2.tmps.getD 2 undef= .pointer (some ⟨w.heap.size,0,none⟩)∧a2.tmps.getD 6 undef= .pointer (some ⟨w.heap.size+1,0,none⟩)∧
   a2.tmps.getD 16 undef= .slice pd ds.length cd∧a2.tmps.getD 17 undef= .int .i64 ds.length∧a2.tmps.getD 18 undef= .int .i64 i∧MidT2 #[.slice pd ds.length cd,.slice pg gs.length cg] w (A1 ns ds i) w2)
  (fun a2 _=>ds.length+1 - Cl (a2.tmps.getD 18 undef)) ⟨0,Nat.zero_le _,Hi _ _,rfl,rfl,rfl,rfl,rfl,rfl,rfl,rfl,m0⟩ ?_
 clear m0;rintro⟨tm,df⟩ w2 ⟨i,hi,hok,hdf,hsz,g1,g2,g6,g16,g17,g18,hM⟩;simp only at hdf hsz g1 g2 g6 g16 g17 g18;subst hdf;obtain⟨x0,x1,x2,x3,x4,x5,x6,x7,x8,x9,x10,x11,x12,x13,x14,x15,x16,x17,x18,x19,x20,x21,x22,x23,x24,x25,x26,x27,x28,x29,x30,x31,x32,x33,x34,x35,x36,x37,x38,x39,x40,x41,x42,x43,x44,x45,x46,x47,x48,x49,x50,x51,x52,x53,x54,x55,x56,x57,x58,x59,x60,x61,rfl⟩:=MH (tm:=tm) hsz;have g1:x1=_:=g1;have g2:x2=_:=g2;have g6:x6=_:=g6;have g16:x16=_:=g16;have g17:x17=_:=g17;have g18:x18=_:=g18;subst g1 g2 g6 g16 g17 g18;clear hsz;by_cases h:i<ds.length
 ·have h':(i:Int)<(ds.length:Int):=by omega
  obtain⟨g,o,us,rfl,hul,hcs,hrs⟩:=OP Der.ds_len h (by omega) hdc
  obtain⟨u0,u1,u2,u3,u4,u5,u6,rfl⟩: ∃u0 u1 u2 u3 u4 u5 u6,us=[u0,u1,u2,u3,u4,u5,u6]:=by
   match us,hul with
   |[a,b,c,d,e,f,g],_=>exact⟨a,b,c,d,e,f,g,rfl⟩
  have c0:=hM.old (hcs 0 u0 rfl);rw[Nat.add_zero]at c0;have c1:=hM.old (hcs 1 u1 rfl);have c2:=hM.old (hcs 2 u2 rfl);have c3:=hM.old (hcs 3 u3 rfl);have c4:=hM.old (hcs 4 u4 rfl);have c5:=hM.old (hcs 5 u5 rfl);have c6:=hM.old (hcs 6 u6 rfl);have hxi:=hx _ (AZ h);have hE:=FU (e:=lineE ns.length) h hok;have hS:=GK (e:=lineE ns.length) h hok;have hW:=JJ (ns:=ns) h;have kf:=Xx ds[i] ns hxi hl hn;have hlw:=HM (i:=i) hxi hn (by omega)
  have hll:=FT hx hn hd i hi;generalize ds[i]=x at*;obtain⟨f,r,frm⟩:=x;have r0:RepD w Z (.int .i64 f.kind) u0:=hrs.2 0 _ _ rfl rfl;have r1:RepD w Z (AT f.args) u1:=hrs.2 1 _ _ rfl rfl;have r2:RepD w Z (.bool f.neg) u2:=hrs.2 2 _ _ rfl rfl;have r3:RepD w Z (Ad f.abs) u3:=hrs.2 3 _ _ rfl rfl;have r4:RepD w Z (Ad f.den) u4:=hrs.2 4 _ _ rfl rfl;have r5:RepD w Z (.int .i64 r) u5:=hrs.2 5 _ _ rfl rfl;have r6:RepD w Z (AT frm) u6:=hrs.2 6 _ _ rfl rfl;cases r0;cases r2;cases r5;obtain⟨p1,k1,rfl,_⟩:=DA r1;obtain⟨p3,k3,rfl,_⟩:=DA r3;obtain⟨p4,k4,rfl,_⟩:=DA r4;obtain⟨p6,k6,rfl,_⟩:=DA r6;have kf2: ∀W,Below w.heap.size w W→Calls Tryz.prog 44 #[.agg #[.int .i64 f.kind,.slice p1 f.args.length k1,.bool f.neg,.slice p3 f.abs.length k3,.slice p4 f.den.length k4,.int .i64 r,.slice p6 frm.length k6],x1] W fun en w'=>
    en= .returned (.tuple #[.string (if lineE ns.length ⟨f,r,frm⟩=0 then Ch (Cc ns ⟨f,r,frm⟩) else Ch []),.int .i64 (lineE ns.length ⟨f,r,frm⟩)])∧Below W.heap.size W w':=fun W hb=>by
   have hk:Keep w W Z Z:=Keep.ext ⟨hb,trivial⟩ Z;refine NL kf W Z [.agg #[_,_,_,_,_,_,_],x1] (hZ.below hb) ⟨rfl,fun j y v hy hv=> ?_⟩
   match j,hy,hv with
   |0,hy,hv=>
    cases hy;cases hv
    exact⟨_,rfl,rfl,fun j y v hy hv=>RepD.keep hk (hrs.2 j y v hy hv)⟩
   |1,hy,hv=>cases hy;cases hv;exact hsn.keep hk
  by_cases hE0:lineE ns.length ⟨f,r,frm⟩=0
  ·rw[if_pos hE0,hE0]at kf2
   have ki:=On (n:=(i:Int)) ⟨by omega,by omega⟩
   go_wp2_with (go_at_call 44;refine(kf2 _ ?hb).mono ?_)
   case hb=>exact hM.below.alloc hM.below.size _
   rintro e W3 rfl hb3
   have hM3:=(hM.ext ((Below.refl _ w2).alloc (AO _) _)).ext (by rw[ZO];exact hb3)
   clear hb3
   go_wp2_with (go_at_call 46;refine(X7 ki W3 Z [.int .i64 i] (hZ.below hM3.below) ⟨rfl,fun j y v hy hv=>by(match j,hy,hv with|0,hy,hv=>cases hy;cases hv;exact .int _ _)⟩).mono ?_)
   rintro e W4 ⟨rfl,hb4⟩
   have hM4:=hM3.ext hb4;clear hb4;have sz1:(Ch (A3 (i:Int))).size≤40:=by rw[Ja];exact DX (by omega) (by omega)
   have sz2:(Ch (Cc ns ⟨f,r,frm⟩)).size≤5000:=by rw[Ja];exact Nf hxi hn
   have sn1: ¬9223372036854775807<(Ch (A3 (i:Int))).size+2:=by omega
   have sn2: ¬9223372036854775807<(Ch (A3 (i:Int))).size+2+(Ch (Cc ns ⟨f,r,frm⟩)).size:=by omega
   have sn3: ¬9223372036854775807<(Ch (A3 (i:Int))).size+2+(Ch (Cc ns ⟨f,r,frm⟩)).size+1:=by omega
   have hstr:Ch (A3 (i:Int))++{ data:= #[46,32] }++Ch (Cc ns ⟨f,r,frm⟩)++{ data:= #[10] }=⟨(CI ns i ⟨f,r,frm⟩++[10]).toArray⟩:=by
    rw[show({ data:= #[46,32] }:ByteArray)=Ch [46,32] from rfl,show({ data:= #[10] }:ByteArray)=Ch [10] from rfl,Ng,Ng,Ng]
    rfl
   go_wp2_with (go_at_call 45;refine(LE w.heap.size (w.heap.size+1) (A1 ns ds i) (CI ns i ⟨f,r,frm⟩++[10]) W4 hM4.b (by rw[List.length_append,List.length_singleton];omega) hM4.below.size).mono ?_)
   rintro e W5 ⟨rfl,pw⟩
   have hM5:=hM4.next pw;clear pw;rw[←hW]at hM5
   go_wp2
   refine⟨⟨i+1,by omega,hS hE0,trivial,rfl,rfl,rfl,rfl,rfl,rfl,rfl,hM5⟩,?_⟩
   show ds.length+1 - Cl (.int .i64 ((i:Int)+1))<ds.length+1 - Cl (.int .i64 (i:Int))
   unfold Cl;simp only;omega
  ·rw[if_neg hE0]at kf2
   have hT:Ny ns.length ds gs=lineE ns.length ⟨f,r,frm⟩:=by
    unfold Ny;rw[hE hE0,if_neg hE0]
   generalize lineE ns.length ⟨f,r,frm⟩=E0 at*
   go_wp2_with (go_at_call 44;refine(kf2 _ ?hb).mono ?_)
   case hb=>exact hM.below.alloc hM.below.size _
   rintro e W3 rfl hb3
   have hM3:=(hM.ext ((Below.refl _ w2).alloc (AO _) _)).ext (by rw[ZO];exact hb3)
   clear hb3
   go_wp2
   go_ret2
   exact⟨rfl,hM3.below⟩
 ·have hi2:i=ds.length:=by omega
  subst hi2;have h': ¬(ds.length:Int)<(ds.length:Int):=by omega
  have hF0:=GS hok;have hT:Ny ns.length ds gs=CZ (errG ns.length) gs:=by
   unfold Ny;rw[if_pos hF0]
  have hll:=FT hx hn hd ds.length (AO _);have c1:w2.cell? ⟨w.heap.size,1,none⟩=some (.slice pg gs.length cg):=hM.cell rfl
  go_wp2
  have m1:MidT2 #[.slice pd ds.length cd,.slice pg gs.length cg] w (A1 ns ds ds.length++Bn ns gs 0) w2:=by
   rw[show Bn ns gs 0=[] from rfl,List.append_nil]
   exact hM
  refine wp_loop (fun a2 w2=> ∃i:Nat,i≤gs.length∧BV (errG ns.length) gs i∧a2.defers=[]∧a2.tmps.size=62∧a2.tmps.getD 1 undef=x1∧a2.tmps.getD 6 undef= .pointer (some ⟨w.heap.size+1,0,none⟩)∧
    a2.tmps.getD 41 undef= .slice pg gs.length cg∧a2.tmps.getD 42 undef= .int .i64 gs.length∧a2.tmps.getD 43 undef= .int .i64 i∧MidT2 #[.slice pd ds.length cd,.slice pg gs.length cg] w (A1 ns ds ds.length++Bn ns gs i) w2)
   (fun a2 _=>gs.length+1 - Cl (a2.tmps.getD 43 undef)) ⟨0,Nat.zero_le _,Hi _ _,rfl,rfl,rfl,rfl,rfl,rfl,rfl,m1⟩ ?_
  clear m1 hM c1 g1 g2 hsl hdc hok;rintro⟨tm,df⟩ w3 ⟨i,hi,hok,hdf,hsz,g1,g6,g41,g42,g43,hM⟩;simp only at hdf hsz g1 g6 g41 g42 g43;subst hdf;obtain⟨y0,y1,y2,y3,y4,y5,y6,y7,y8,y9,y10,y11,y12,y13,y14,y15,y16,y17,y18,y19,y20,y21,y22,y23,y24,y25,y26,y27,y28,y29,y30,y31,y32,y33,y34,y35,y36,y37,y38,y39,y40,y41,y42,y43,y44,y45,y46,y47,y48,y49,y50,y51,y52,y53,y54,y55,y56,y57,y58,y59,y60,y61,rfl⟩:=MH (tm:=tm) hsz;have g1:y1=_:=g1;have g6:y6=_:=g6;have g41:y41=_:=g41;have g42:y42=_:=g42;have g43:y43=_:=g43;subst g1 g6 g41 g42 g43;clear hsz;have hgl:=HD hy hn i hi;by_cases h:i<gs.length
  ·have h2':(i:Int)<(gs.length:Int):=by omega
   obtain⟨g,o,us,rfl,hul,hcs,hrs⟩:=OP Grd.ds_len h (by omega) hgc
   obtain⟨u0,u1,rfl⟩: ∃u0 u1,us=[u0,u1]:=by
    match us,hul with
    |[a,b],_=>exact⟨a,b,rfl⟩
   have c0:=hM.old (hcs 0 u0 rfl);rw[Nat.add_zero]at c0;have c1:=hM.old (hcs 1 u1 rfl);have hyi:=hy _ (AZ h);have hE:=FU (e:=errG ns.length) h hok;have hS:=GK (e:=errG ns.length) h hok;have hW:Bn ns gs (i+1)=Bn ns gs i++DK ns gs[i]:=Ji (ns:=ns) h;have kf:=YY gs[i] ns hyi hl hn;have hlw:=Je hn hyi;generalize gs[i]=x at*;obtain⟨kd,args⟩:=x;have r0:RepD w Z (.int .i64 kd) u0:=hrs.2 0 _ _ rfl rfl;have r1:RepD w Z (AT args) u1:=hrs.2 1 _ _ rfl rfl;cases r0;obtain⟨p1,k1,rfl,_⟩:=DA r1;have kf2: ∀W,Below w.heap.size w W→Calls Tryz.prog 47 #[.agg #[.int .i64 kd,.slice p1 args.length k1],y1] W fun en w'=>
     en= .returned (.tuple #[.string (if errG ns.length ⟨kd,args⟩=0 then Ch (Bq ns ⟨kd,args⟩) else Ch []),.int .i64 (errG ns.length ⟨kd,args⟩)])∧Below W.heap.size W w':=fun W hb=>by
    have hk:Keep w W Z Z:=Keep.ext ⟨hb,trivial⟩ Z;refine NL kf W Z [.agg #[_,_],y1] (hZ.below hb) ⟨rfl,fun j y v hy hv=> ?_⟩
    match j,hy,hv with
    |0,hy,hv=>
     cases hy;cases hv
     exact⟨_,rfl,rfl,fun j y v hy hv=>RepD.keep hk (hrs.2 j y v hy hv)⟩
    |1,hy,hv=>cases hy;cases hv;exact hsn.keep hk
   by_cases hE0:errG ns.length ⟨kd,args⟩=0
   ·rw[if_pos hE0,hE0]at kf2
    have sz2:(Ch (Bq ns ⟨kd,args⟩)).size≤700:=by rw[Ja];exact hlw
    have sn1: ¬9223372036854775807<3+(Ch (Bq ns ⟨kd,args⟩)).size:=by omega
    have sn2: ¬9223372036854775807<3+(Ch (Bq ns ⟨kd,args⟩)).size+1:=by omega
    have hstr:{ data:= #[105,102,32] }++Ch (Bq ns ⟨kd,args⟩)++{ data:= #[10] }=(⟨(DK ns ⟨kd,args⟩).toArray⟩:ByteArray):=by
     rw[show({ data:= #[105,102,32] }:ByteArray)=Ch [105,102,32] from rfl,show({ data:= #[10] }:ByteArray)=Ch [10] from rfl,Ng,Ng]
     rfl
    have hgll:(DK ns ⟨kd,args⟩).length≤704:=by
     unfold DK;simp only[List.length_append,List.length_cons,List.length_nil];omega
    have hpre:(A1 ns ds ds.length++Bn ns gs i).length+(DK ns ⟨kd,args⟩).length≤100000000:=by rw[List.length_append];omega
    go_wp2_with (go_at_call 47;refine(kf2 _ ?hb).mono ?_)
    case hb=>exact hM.below.alloc hM.below.size _
    rintro e W3 rfl hb3
    have hM3:=(hM.ext ((Below.refl _ w3).alloc (AO _) _)).ext (by rw[ZO];exact hb3)
    clear hb3;have hws:=LE w.heap.size (w.heap.size+1) (A1 ns ds ds.length++Bn ns gs i) (DK ns ⟨kd,args⟩) W3 hM3.b hpre hM3.below.size;generalize (⟨(DK ns ⟨kd,args⟩).toArray⟩:ByteArray)=GL at*
    go_wp2_with (go_at_call 45;refine hws.mono ?_)
    rintro e W5 ⟨rfl,pw⟩
    have hM5:=hM3.next pw;clear pw;rw[List.append_assoc (A1 ns ds ds.length),←hW]at hM5
    go_wp2
    refine⟨⟨i+1,by omega,hS hE0,trivial,rfl,rfl,rfl,rfl,rfl,rfl,hM5⟩,?_⟩
    show gs.length+1 - Cl (.int .i64 ((i:Int)+1))<gs.length+1 - Cl (.int .i64 (i:Int))
    unfold Cl;simp only;omega
   ·rw[if_neg hE0]at kf2
    rw[hE hE0]at hT
    generalize errG ns.length ⟨kd,args⟩=E0 at*
    go_wp2_with (go_at_call 47;refine(kf2 _ ?hb).mono ?_)
    case hb=>exact hM.below.alloc hM.below.size _
    rintro e W3 rfl hb3
    have hM3:=(hM.ext ((Below.refl _ w3).alloc (AO _) _)).ext (by rw[ZO];exact hb3)
    clear hb3
    go_wp2
    go_ret2
    exact⟨rfl,hM3.below⟩
  ·have hi2:i=gs.length:=by omega
   subst hi2;have h2': ¬(gs.length:Int)<(gs.length:Int):=by omega
   rw[GS hok]at hT
   have hW:Ch (C4 ns ds gs)=⟨(A1 ns ds ds.length++Bn ns gs gs.length).toArray⟩:=rfl
   go_wp2_with (go_at_call 48;refine(MT w.heap.size (w.heap.size+1) (A1 ns ds ds.length++Bn ns gs gs.length) _ hM.b hM.below.size).mono ?_)
   rintro e W6 rfl p2 _
   go_wp2
   go_ret2
   exact⟨rfl,hM.below.trans p2⟩
theorem NE(ds:List Der)(gs:List Grd)(ns:List ByteArray)(hd:ds.length≤1500)(hg:gs.length≤1500)(hx: ∀x∈ds,x.Brief)(hy: ∀g∈gs,g.args.length≤20)(hl:ns.length≤60)(hn: ∀s∈ns,s.size≤30):
  CallsF Tryz.prog 13 [.agg [Dh ds,Dd gs],.c (A6 ns)] (Br (Ny ns.length ds gs) (C4 ns ds gs)):=by
 refine Jv (ds:=[.str (if Ny ns.length ds gs=0 then Ch (C4 ns ds gs) else Ch []),.int .i64 (Ny ns.length ds gs)]) (D8 Tryz.func13 rfl (by decide)) fun w Z vals hZ hvs=> ?_
 match vals,hvs.1 with
 |[v0,v1],_=>
  obtain⟨vs,rfl,hl2,hv2⟩:=hvs.2 0 _ _ rfl rfl
  have hsn:RepD w Z (A6 ns) v1:=hvs.2 1 _ _ rfl rfl
  match vs,hl2 with
  |[x0,x1],_=>
   have r0:RepD w Z (Dh ds) x0:=hv2 0 _ _ rfl rfl;have r1:RepD w Z (Dd gs) x1:=hv2 1 _ _ rfl rfl;refine(UI ds gs ns hd hg hx hy hl hn w Z x0 x1 v1 hZ r0 r1 hsn).mono ?_;rintro e w' ⟨rfl,hb⟩;refine⟨[_,_],rfl,hb,rfl,fun j x v hx hv=> ?_⟩
   match j,hx,hv with
   |0,hx,hv=>cases hx;cases hv;exact .str _
   |1,hx,hv=>cases hx;cases hv;exact .int _ _
end Go.Va
namespace Go.Va
mutual
def CC:D→D→Bool
 | .int k n,.int k' n'=>decide (k=k')&&decide (n=n')
 | .bool b,.bool b'=>b==b'
 | .str s,.str s'=>decide (s.data.toList=s'.data.toList)
 | .slice n cs,.slice n' cs'=>Nat.beq n n'&&LP cs cs'
 | .ref cs,.ref cs'=>LP cs cs'
 | .fn f cs,.fn f' cs'=>Nat.beq f f'&&LP cs cs'
 | .nilFn,.nilFn=>true
 | .nilPtr,.nilPtr=>true
 | .iface t cs,.iface t' cs'=>Nat.beq t t'&&LP cs cs'
 |_,_=>false
def LP:List D→List D→Bool
 |[],[]=>true
 |x::r,y::s=>CC x y&&LP r s
 |_,_=>false
end
mutual
theorem JU: ∀{x y:D},CC x y=true→x=y
 | .int k n,y,h=>by
  cases y<;>simp[CC]at h
  rw[h.1,h.2]
 | .bool b,y,h=>by
  cases y<;>simp[CC]at h
  rw[h]
 | .str s,y,h=>by
  cases y<;>simp[CC]at h
  rename_i s'
  obtain⟨a⟩:=s
  simp_all
 | .slice n cs,y,h=>by
  cases y<;>simp[CC]at h
  rw[h.1,Ed h.2]
 | .ref cs,y,h=>by
  cases y<;>simp[CC]at h
  rw[Ed h]
 | .fn f cs,y,h=>by
  cases y<;>simp[CC]at h
  rw[h.1,Ed h.2]
 | .nilFn,y,h=>by
  cases y<;>simp[CC]at h
  rfl
 | .nilPtr,y,h=>by
  cases y<;>simp[CC]at h
  rfl
 | .iface t cs,y,h=>by
  cases y<;>simp[CC]at h
  rw[h.1,Ed h.2]
 | .lit x,y,h=>by grind[CC]
 | .any,y,h=>by grind[CC]
 | .nn,y,h=>by grind[CC]
theorem Ed: ∀{l m:List D},LP l m=true→l=m
 |[],[],_=>rfl
 |[],_::_,h=>by simp[LP]at h
 |_::_,[],h=>by simp[LP]at h
 |x::r,y::s,h=>by
  simp only[LP,AR]at h;rw[JU h.1,Ed h.2]
end
def Kd:A→A→Bool
 | .c x,.c y=>CC x y
 | .agg xs,.agg ys=>LP xs ys
 |_,_=>false
theorem S7{x y:A}(h:Kd x y=true):x=y:=by
 cases x<;>cases y<;>simp only[Kd,Bool.false_eq_true]at h
 ·rw[JU h]
 ·rw[Ed h]
def B8{α:Type}(e:α→α→Bool):List α→List α→Bool
 |[],[]=>true
 |x::r,y::s=>e x y&&B8 e r s
 |_,_=>false
theorem Cw{α:Type}{e:α→α→Bool}(he: ∀x y,e x y=true→x=y): ∀{l m:List α},B8 e l m=true→l=m
 |[],[],_=>rfl
 |[],_::_,h=>by simp[B8]at h
 |_::_,[],h=>by simp[B8]at h
 |x::r,y::s,h=>by
  simp only[B8,AR]at h;rw[he _ _ h.1,Cw he h.2]
def E1:C→C→Bool
 | .d x,.d y=>CC x y
 | .nl,.nl=>true
 | .sl i o n,.sl j p m=>Nat.beq i j&&(Nat.beq o p&&Nat.beq n m)
 | .ptr i o,.ptr j p=>Nat.beq i j&&Nat.beq o p
 | .bad,.bad=>true
 | .mp q i,.mp r j=>(q==r)&&Nat.beq i j
 |_,_=>false
theorem Gk(x y:C)(h:E1 x y=true):x=y:=by
 cases x<;>cases y<;>simp[E1]at h
 ·rw[JU h]
 ·rfl
 ·grind
 ·rw[h.1,h.2]
 ·rfl
 ·rw[h.1,h.2]
def HH:U→U→Bool
 | .c x,.c y=>E1 x y
 | .agg xs,.agg ys=>B8 E1 xs ys
 | .clo f xs,.clo g ys=>Nat.beq f g&&B8 E1 xs ys
 |_,_=>false
theorem LM(x y:U)(h:HH x y=true):x=y:=by
 cases x<;>cases y<;>simp only[HH,Bool.false_eq_true,AR,Nat.beq_eq]at h
 ·rw[Gk _ _ h]
 ·rw[Cw Gk h]
 grind[Cw,Gk]
def L1:Ky→Ky→Bool
 | .s a,.s b=>decide (a.data.toList=b.data.toList)
 | .n a,.n b=>decide (a=b)
 |_,_=>false
def Lm(x y:Ky×Int):Bool:=L1 x.1 y.1&&decide (x.2=y.2)
theorem jkg(x y:Ky×Int)(h:Lm x y=true):x=y:=by
 obtain⟨x,n⟩:=x
 obtain⟨y,m⟩:=y
 simp only[Lm,AR,decide_eq_true_eq]at h;obtain⟨h1,rfl⟩:=h;unfold L1 at h1;split at h1
 ·rename_i a b
  obtain⟨⟨a⟩⟩:=a
  simp_all
 ·grind
 ·cases h1
def MP:Blk→Blk→Bool
 | .row a cs p,.row b ds q=>Nat.beq a b&&(LP cs ds&&(p==q))
 | .box cs,.box ds=>B8 E1 cs ds
 | .fbox f cs,.fbox g ds=>Nat.beq f g&&B8 E1 cs ds
 | .mp (.mp es),.mp (.mp fs)=>B8 Lm es fs
 | .mp (.it s p),.mp (.it t q)=>decide (s.data.toList=t.data.toList)&&Nat.beq p q
 | .gh cs,.gh ds=>B8 E1 cs ds
 |_,_=>false
theorem ZR{x y:Blk}(h:MP x y=true):x=y:=by
 unfold MP at h;split at h
 ·simp only[AR,Nat.beq_eq,beq_iff_eq]at h
  grind[Ed]
 ·rw[Cw Gk h]
 ·simp only[AR,Nat.beq_eq]at h;rw[h.1,Cw Gk h.2]
 ·rw[Cw jkg h]
 ·rename_i s p t q
  obtain⟨⟨a⟩⟩:=s
  simp_all
 ·rw[Cw Gk h]
 ·cases h
def Kc(x y:Nat×Blk):Bool:=Nat.beq x.1 y.1&&MP x.2 y.2
theorem N3(x y:Nat×Blk)(h:Kc x y=true):x=y:=by
 obtain⟨i,b⟩:=x
 obtain⟨j,c⟩:=y
 simp only[Kc,AR,Nat.beq_eq]at h;rw[h.1,ZR h.2]
def Mx:V→V→Bool
 | .u x,.u y=>HH x y
 | .tup xs,.tup ys=>B8 HH xs ys
 |_,_=>false
theorem jdL{x y:V}(h:Mx x y=true):x=y:=by
 cases x<;>cases y<;>simp only[Mx,Bool.false_eq_true]at h
 ·rw[LM _ _ h]
 ·rw[Cw LM h]
end Go.Va
