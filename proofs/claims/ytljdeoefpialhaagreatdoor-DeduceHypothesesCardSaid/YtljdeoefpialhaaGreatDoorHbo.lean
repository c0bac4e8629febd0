/- a part of the proof -/
import Derived.Test.YtljdeoefpialhaaGreatDoorHbn
import Derived.Test.YtljdeoefpialhaaGreatDoorHbe
import Derived.Test.YtljdeoefpialhaaGreatDoorHaz
import Derived.Test.YtljdeoefpialhaaGreatDoorHzL
import Derived.Test.YtljdeoefpialhaaGreatDoorHal
set_option linter.all false
set_option maxHeartbeats 4000000
set_option maxRecDepth 100000
namespace Go.Va
open Go.Proofs Go.RowKit
theorem je0{tm:Array Value}(h:tm.size=31): ∃x0 x1 x2 x3 x4 x5 x6 x7 x8 x9 x10 x11 x12 x13 x14 x15 x16 x17 x18 x19 x20 x21 x22 x23 x24 x25 x26 x27 x28 x29 x30:Value,tm= #[x0,x1,x2,x3,x4,x5,x6,x7,x8,x9,x10,x11,x12,x13,x14,x15,x16,x17,x18,x19,x20,x21,x22,x23,x24,x25,x26,x27,x28,x29,x30]:=by
 obtain⟨l⟩:=tm
 have h0:l.length=31:=by simpa using h
 obtain⟨x0,l0,e0,h1⟩:=AK h0
 subst e0;obtain⟨x1,l1,e1,h2⟩:=AK h1;subst e1;obtain⟨x2,l2,e2,h3⟩:=AK h2;subst e2;obtain⟨x3,l3,e3,h4⟩:=AK h3;subst e3;obtain⟨x4,l4,e4,h5⟩:=AK h4;subst e4;obtain⟨x5,l5,e5,h6⟩:=AK h5;subst e5;obtain⟨x6,l6,e6,h7⟩:=AK h6;subst e6;obtain⟨x7,l7,e7,h8⟩:=AK h7;subst e7;obtain⟨x8,l8,e8,h9⟩:=AK h8;subst e8;obtain⟨x9,l9,e9,h10⟩:=AK h9;subst e9;obtain⟨x10,l10,e10,h11⟩:=AK h10;subst e10;obtain⟨x11,l11,e11,h12⟩:=AK h11;subst e11;obtain⟨x12,l12,e12,h13⟩:=AK h12;subst e12;obtain⟨x13,l13,e13,h14⟩:=AK h13;subst e13;obtain⟨x14,l14,e14,h15⟩:=AK h14;subst e14;obtain⟨x15,l15,e15,h16⟩:=AK h15;subst e15;obtain⟨x16,l16,e16,h17⟩:=AK h16;subst e16;obtain⟨x17,l17,e17,h18⟩:=AK h17;subst e17;obtain⟨x18,l18,e18,h19⟩:=AK h18;subst e18;obtain⟨x19,l19,e19,h20⟩:=AK h19;subst e19;obtain⟨x20,l20,e20,h21⟩:=AK h20;subst e20;obtain⟨x21,l21,e21,h22⟩:=AK h21;subst e21;obtain⟨x22,l22,e22,h23⟩:=AK h22;subst e22;obtain⟨x23,l23,e23,h24⟩:=AK h23;subst e23;obtain⟨x24,l24,e24,h25⟩:=AK h24;subst e24;obtain⟨x25,l25,e25,h26⟩:=AK h25;subst e25;obtain⟨x26,l26,e26,h27⟩:=AK h26;subst e26;obtain⟨x27,l27,e27,h28⟩:=AK h27;subst e27;obtain⟨x28,l28,e28,h29⟩:=AK h28;subst e28;obtain⟨x29,l29,e29,h30⟩:=AK h29;subst e29;obtain⟨x30,l30,e30,h31⟩:=AK h30;subst e30;obtain rfl:l30=[]:=jzv.1 h31;exact⟨x0,x1,x2,x3,x4,x5,x6,x7,x8,x9,x10,x11,x12,x13,x14,x15,x16,x17,x18,x19,x20,x21,x22,x23,x24,x25,x26,x27,x28,x29,x30,rfl⟩
structure MidK (bx:Array Value) (w:World) (l:List UInt8) (w':World):Prop where
 b:Bld w.heap.size (w.heap.size+1) l w'
 below:Below w.heap.size w w'
 drawn:w.drawn≤w'.drawn
 box:w'.heap[w.heap.size]? =some (.cells bx 48 (0,0))
theorem MidK.cell{bx:Array Value}{w w':World}{l:List UInt8}(h:MidK bx w l w'){k:Nat}{v:Value}(hv:bx[k]? =some v):w'.cell? ⟨w.heap.size,k,none⟩=some v:=by
 rw[Lib.cell_of_heap h.box];exact hv
theorem MidK.old{bx:Array Value}{w w':World}{l:List UInt8}(h:MidK bx w l w'){p:Addr}{v:Value}(hv:w.cell? p=some v):w'.cell? p=some v:=
 (h.below.cell (World.block_lt_of_cell? _ _ hv)).trans hv
theorem MidK.next{bx:Array Value}{w w1 w2:World}{l l':List UInt8}(h:MidK bx w l w1)(hw:Ig w.heap.size (w.heap.size+1) l' w1 w2):MidK bx w l' w2 where
 b:=hw.1
 below:=h.below.trans hw.2.1
 drawn:=Nat.le_trans h.drawn hw.2.2.2
 box:=hw.2.2.1 _ _ h.box (by simp) (fun c fz e=>by simp at e)
theorem Lh{w:World}{k:Nat}{x:Obj}(h:w.heap[k]? =some x):k<w.heap.size:=(Array.getElem?_eq_some_iff.1 h).1
theorem Bld.ext{B b:Nat}{l:List UInt8}{w w':World}(h:Bld B b l w)(hb:Below w.heap.size w w'):Bld B b l w':=by
 have key: ∀p,Lib.BuilderAtF 120 5 B b p (Lib.byteCells l) w→Lib.BuilderAtF 120 5 B b p (Lib.byteCells l) w':=by
  rintro p ⟨hB,v,hk,⟨hl,hc⟩,hne⟩
  refine⟨hB,v,(hb.block _ (Lh hk)).trans hk,⟨hl,?_⟩,hne⟩
  rcases hc with hc|⟨g,cap,cur,fz,h1,h2,h3,h4⟩
  ·exact .inl hc
  ·exact .inr ⟨g,cap,cur,fz,h1,h2,(hb.block _ (Lh h3)).trans h3,h4⟩
 exact h.imp (key _) (key _)
theorem MidK.ext{bx:Array Value}{w w1 w2:World}{l:List UInt8}(h:MidK bx w l w1)(hw:Ext w1 w2):MidK bx w l w2 where
 b:=h.b.ext hw.toBelow
 below:=h.below.trans (hw.toBelow.mono h.below.size)
 drawn:=Nat.le_trans h.drawn hw.drawn
 box:=(hw.block _ (Lh h.box)).trans h.box
theorem ZO(w:World)(x:Obj):(w.alloc x).heap.size=w.heap.size+1:=by
 show(w.heap.push x).size=_
 simp
theorem MidK.new(w:World)(bx:Array Value):MidK bx w [] ((w.alloc (.cells bx 48)).alloc (.cells #[.pointer none,.slice none 0 0] 120)) where
 b:= .inl ⟨by omega,.slice none 0 0,by
  show((w.heap.push _).push _)[w.heap.size+1]? =some _
  have h:w.heap.size+1=(w.heap.push (Obj.cells bx 48)).size:=by simp
  rw[h,Array.getElem?_push_size],⟨rfl,.inl ⟨rfl,rfl⟩⟩,by simp[Value.ownBlock]⟩
 below:=((Below.refl _ w).alloc (AO _) _).alloc (by rw[ZO];omega) _
 drawn:=AO _
 box:=by
  show((w.heap.push _).push _)[w.heap.size]? =some _
  rw[Array.getElem?_push_lt (by simp)]
  simp
theorem MH{u:Nat}(h:u<100):(Lib.decDigits u).length≤2:=KT 1 u (by omega)
theorem SK{l:List Int}(h: ∀a∈l,0≤a∧a<40):(Bp (Bv l)).length≤3*l.length:=by
 induction l with
 |nil=>simp[Bv,Bp]
 |cons a l ih=>
  have h1:=ih fun x hx=>h x (List.mem_cons_of_mem _ hx)
  have h2:=h a (List.mem_cons_self ..);have h3:=MH (u:=a.toNat) (by omega)
  simp only[Bv,Bp,List.map_cons,List.flatMap_cons,List.length_append,List.length_cons]at h1 ⊢;omega
theorem O5(l m:List (List UInt8)):Bp (l++m)=Bp l++Bp m:=List.flatMap_append
theorem Wn{neg:Bool}{m d:Nat}(hm:m<340282366920938463463374607431768211456)(hd:d<340282366920938463463374607431768211456):(BL neg m d).length≤100:=by
 have h1:=I5 hm;have h2:=I5 hd;unfold BL;simp only[List.length_append];split<;>split<;>simp<;>omega
theorem jcr(l:List Int)(a:Int):Bv (l++[a])=Bv l++[Lib.decDigits a.toNat]:=by simp[Bv]
theorem Sp(x:List UInt8):Bp [x]=[32]++x:=by simp[Bp]
theorem SQ(B b:Nat)(l:List UInt8)(w:World)(h:Bld B b l w)(hlen:l.length≤1000)(hBw:B≤w.heap.size):
  Calls Tryz.prog 90 #[.pointer (some ⟨b,0,none⟩),.int .u8 32] w fun e w'=>e= .returned .nilIface∧Ig B b (l++[32]) w w':=NC B b l 32 w h hlen hBw
theorem Vk(f:Fct)(hf:f.Rt)(w:World)(Z:Addr→Prop)(sl va vd:Value)(hZ: ∀ad,Z ad→ad.block<w.heap.size)(hsl:RepD w Z (intsD f.args) sl)(hva:RepD w Z (Ad f.abs) va)(hvd:RepD w Z (Ad f.den) vd):
  Calls Tryz.prog 36 #[.agg #[.int .i64 f.kind,sl,.bool f.neg,va,vd]] w fun e w'=>e= .returned (.string (Bn f))∧Below w.heap.size w w'∧w.drawn≤w'.drawn:=by
 obtain⟨a1,a2,a3,a4⟩:=hf.parts
 have mf:=hf.mild;have k1:=Ny a1;have hal:=K2 f.kind;have kt:=fun h9:f.kind=9=>jhM f.neg f.abs f.den mf.oa mf.od mf.la mf.ld (by rw[if_pos h9]at a4;exact a4)
 have hrl:=Wn (neg:=f.neg) (mf.oa.ltW mf.la) (mf.od.ltW mf.ld);have hkey:Bn f=Ch (Lib.decDigits f.kind.toNat++Bp (Bv f.args++if f.kind=9 then [BL f.neg (val f.abs) (val f.den)] else [])):=rfl;rw[hkey];clear hkey;generalize hS:Lib.decDigits f.kind.toNat++Bp (Bv f.args++if f.kind=9 then [BL f.neg (val f.abs) (val f.den)] else [])=S;obtain⟨kind,args,neg,abs,den⟩:=f;simp only at*;clear hf mf;obtain⟨kn,rfl⟩: ∃kn:Nat,kind=kn:=⟨kind.toNat,by omega⟩
 have hkn:kn<100:=by omega
 rw[Int.toNat_natCast]at hS
 have hne:args≠[]:=fun h=>by rw[h]at a2;exact a1 a2.symm
 obtain⟨g,oo,c,rfl,hcells⟩: ∃g oo c,sl= .slice (some ⟨g,oo,none⟩) args.length c∧ ∀j (h:j<args.length),w.cell? ⟨g,oo+j,none⟩=some (.int .i64 args[j]):=by
  have e:intsD args=D.slice args.length (args.map i64):=rfl
  rw[e]at hsl
  obtain⟨n,hn⟩: ∃n,n=args.length:=⟨_,rfl⟩
  obtain⟨m,hm⟩: ∃m,m=args.map i64:=⟨_,rfl⟩
  rw[←hn,←hm]at hsl
  cases hsl with
  |snil=>exact absurd (jzv.1 hn.symm) hne
  |slice n cs a c us hs hn2 hc g1 g2 g3=>
   obtain⟨g,oo,sp⟩:=a
   subst hm;have:sp=none:=hs (by simpa using hne)
   subst this;refine⟨g,oo,c,by rw[←hn],fun j h=> ?_⟩
   have q1:=g1 j (i64 args[j]) (by simp[h])
   have q3:=g3 j (i64 args[j]) (by simp[h])
   simp only at q1;generalize us j=u at q1 q3;cases q3;exact q1
 have hal8:args.length≤8:=by omega
 clear a1 a2 hal;have ld:=MH hkn;have hld:=SK (l:=args) a3;have m0:=MidK.new w #[.int .i64 kn,.slice (some ⟨g,oo,none⟩) args.length c,.bool neg,va,vd]
 go_enter Tryz.func36,Tryz.ntmps36
 go_wp2_with (go_at_call 89;refine(TY hkn _).mono ?_;rintro e w' ⟨rfl,rfl⟩)
 refine(LE w.heap.size (w.heap.size+1) [] (Lib.decDigits kn) _ m0.b (by simp;omega) m0.below.size).mono ?_
 rintro e W1 ⟨rfl,p1⟩
 have m1:=m0.next p1;clear p1 m0;have e1:W1.cell? ⟨w.heap.size,1,none⟩=some (.slice (some ⟨g,oo,none⟩) args.length c):=m1.cell rfl
 go_wp2
 clear e1;refine wp_loop (fun a2 w2=> ∃i:Nat,i≤args.length∧a2.defers=[]∧a2.tmps.size=31∧a2.tmps.getD 1 undef= .pointer (some ⟨w.heap.size,0,none⟩)∧a2.tmps.getD 3 undef= .pointer (some ⟨w.heap.size+1,0,none⟩)∧a2.tmps.getD 11 undef= .slice (some ⟨g,oo,none⟩) args.length c∧
   a2.tmps.getD 12 undef= .int .i64 args.length∧a2.tmps.getD 13 undef= .int .i64 i∧MidK #[.int .i64 kn,.slice (some ⟨g,oo,none⟩) args.length c,.bool neg,va,vd] w (Lib.decDigits kn++Bp (Bv (args.take i))) w2)
  (fun a2 _=>args.length+1 - Cl (a2.tmps.getD 13 undef)) ⟨0,Nat.zero_le _,rfl,rfl,rfl,rfl,rfl,rfl,rfl,by simpa [Bv,Bp]using m1⟩ ?_
 clear m1;rintro⟨tm,df⟩ w2 ⟨i,hi,hd,hsz,g1,g3,g11,g12,g13,hM⟩;simp only at hd hsz g1 g3 g11 g12 g13;subst hd;obtain⟨x0,x1,x2,x3,x4,x5,x6,x7,x8,x9,x10,x11,x12,x13,x14,x15,x16,x17,x18,x19,x20,x21,x22,x23,x24,x25,x26,x27,x28,x29,x30,rfl⟩:=je0 (tm:=tm) hsz;have g1:x1=_:=g1;have g3:x3=_:=g3;have g11:x11=_:=g11;have g12:x12=_:=g12;have g13:x13=_:=g13;subst g1 g3 g11 g12 g13;clear hsz;have hlt:=SK (l:=args.take i) (fun a ha=>a3 a (List.mem_of_mem_take ha))
 have hll:(Lib.decDigits kn++Bp (Bv (args.take i))).length≤100:=by rw[List.length_append];rw[A8]at hlt;omega
 by_cases h:i<args.length
 ·have h':(i:Int)<(args.length:Int):=by omega
  have hc:=hM.old (hcells i h);have ha:=a3 _ (AZ h);have hw:Lib.decDigits kn++Bp (Bv (args.take (i+1)))=(Lib.decDigits kn++Bp (Bv (args.take i))++[32])++Lib.decDigits args[i].toNat:=by
   rw[Cr h,jcr,O5,Sp,List.append_assoc,List.append_assoc]
  generalize Lib.decDigits kn++Bp (Bv (args.take i))=L at*;obtain⟨an,han⟩: ∃an:Nat,args[i]=an:=⟨args[i].toNat,by omega⟩
  rw[han]at hc hw ha
  rw[Int.toNat_natCast]at hw
  have hld2:=MH (u:=an) (by omega)
  go_wp2_with (go_at_call 90;refine(SQ w.heap.size (w.heap.size+1) L _ hM.b (by omega) hM.below.size).mono ?_)
  rintro e W3 ⟨rfl,p1⟩
  have hM2:=hM.next p1;clear p1
  go_wp2_with (go_at_call 89;refine(TY (i:=an) (by omega) _).mono ?_;rintro e w' ⟨rfl,rfl⟩)
  refine(LE w.heap.size (w.heap.size+1) (L++[32]) (Lib.decDigits an) _ hM2.b (by rw[List.length_append,List.length_singleton];omega) hM2.below.size).mono ?_
  rintro e W4 ⟨rfl,p1⟩
  have hM3:=hM2.next p1;clear p1;rw[←hw]at hM3
  go_wp2
  refine⟨⟨i+1,by omega,trivial,rfl,rfl,rfl,rfl,rfl,rfl,hM3⟩,?_⟩
  show args.length+1 - Cl (.int .i64 ((i:Int)+1))<args.length+1 - Cl (.int .i64 (i:Int))
  unfold Cl;simp only;omega
 ·have hi2:i=args.length:=by omega
  subst hi2;rw[BM]at hM hll;have hc0:w2.cell? ⟨w.heap.size,0,none⟩=some (.int .i64 kn):=hM.cell rfl;have hLne:Lib.decDigits kn++Bp (Bv args)≠[]:=fun h=>Nu kn (List.append_eq_nil_iff.1 h).1
  have h': ¬(args.length:Int)<(args.length:Int):=by omega
  rw[O5,←List.append_assoc]at hS
  generalize Lib.decDigits kn++Bp (Bv args)=L at*;by_cases h9:(kn:Int)=9
  ·have kt:=kt h9;rw[if_pos h9]at hS;have hc2:w2.cell? ⟨w.heap.size,2,none⟩=some (.bool neg):=hM.cell rfl;generalize hR:BL neg (val abs) (val den)=R at*;rw[Sp,←List.append_assoc]at hS
   go_wp2_with (go_at_call 90;refine(SQ w.heap.size (w.heap.size+1) L _ hM.b (by omega) hM.below.size).mono ?_)
   rintro e W3 rfl p1
   have hM2:=hM.next p1;clear p1;have d2:W3.cell? ⟨w.heap.size,2,none⟩=some (.bool neg):=hM2.cell rfl;have d3:W3.cell? ⟨w.heap.size,3,none⟩=some va:=hM2.cell rfl;have d4:W3.cell? ⟨w.heap.size,4,none⟩=some vd:=hM2.cell rfl;have kt2:=kt.2 W3 Z [.agg #[.bool neg,va,vd]] (fun ad h=>Nat.lt_of_lt_of_le (hZ ad h) hM2.below.size) ⟨rfl,fun j x v hx hv=>by
    match j,hx,hv with
    |0,hx,hv=>
     cases hx;cases hv
     refine⟨_,rfl,rfl,fun j x v hx hv=> ?_⟩
     have hk:Keep w W3 Z Z:=Keep.ext ⟨hM2.below,hM2.drawn⟩ Z
     match j,hx,hv with
     |0,hx,hv=>cases hx;cases hv;exact .bool _
     |1,hx,hv=>cases hx;cases hv;exact hva.keep hk
     |2,hx,hv=>cases hx;cases hv;exact hvd.keep hk⟩
   go_wp2_with (go_at_call 91;refine kt2.mono ?_)
   rintro e W4 ⟨v,rfl,hx,_,o,_,hv⟩
   have hv:=(hv 0).1;cases hv;have hM3:=hM2.ext hx;have hRl:R.length≤100:=hrl
   go_wp2_with (go_at_call 88;refine(LE w.heap.size (w.heap.size+1) (L++[32]) R _ hM3.b (by rw[List.length_append,List.length_singleton];omega) hM3.below.size).mono ?_)
   rintro e W5 ⟨rfl,p1⟩
   have hM4:=hM3.next p1;clear p1;rw[hS]at hM4;have hSne:S≠[]:=fun h=>by rw[←hS]at h;exact hLne (List.append_eq_nil_iff.1 (List.append_eq_nil_iff.1 h).1).1
   go_wp2_with (go_at_call 92;refine(MT w.heap.size (w.heap.size+1) S _ hM4.b hSne hM4.below.size).mono ?_)
   rintro e W6 ⟨rfl,p2,p3⟩
   go_wp2
   go_ret
   exact⟨rfl,hM4.below.trans p2,Nat.le_trans hM4.drawn p3⟩
  ·rw[if_neg h9]at hS
   have e0:Bp []=[]:=rfl
   rw[e0,List.append_nil]at hS
   subst hS
   go_wp2_with (go_at_call 92;refine(MT w.heap.size (w.heap.size+1) L _ hM.b hLne hM.below.size).mono ?_)
   rintro e W3 rfl p2 p3
   go_wp2
   go_ret
   exact⟨rfl,hM.below.trans p2,Nat.le_trans hM.drawn p3⟩
theorem C9(f:Fct)(hf:f.Rt):CallsF Tryz.prog 36 [.agg f.ds] (.u (.c (.d (.str (Bn f))))):=by
 refine⟨⟨Tryz.f36,Tryz.func36,rfl,by decide⟩,fun w Z vals hZ hvals=> ?_⟩
 obtain⟨hl,hv⟩:=hvals
 match vals,hl with
 |[v],_=>
  obtain⟨vs,rfl,hl2,hv2⟩:=hv 0 _ _ rfl rfl
  match vs,hl2 with
  |[x0,x1,x2,x3,x4],_=>
   have r0:=hv2 0 _ _ rfl rfl;have r1:=hv2 1 _ _ rfl rfl;have r2:=hv2 2 _ _ rfl rfl;have r3:=hv2 3 _ _ rfl rfl;have r4:=hv2 4 _ _ rfl rfl;cases r0;cases r2;refine(Vk f hf w Z x1 x3 x4 hZ r1 r3 r4).mono ?_;rintro e w' ⟨rfl,hb,hd⟩;refine⟨_,rfl,⟨hb,hd⟩,by simp[R.rows,RU.rows,RC.rows],⟨0,0,0,0,false,false,true⟩,fun ad h=>(by cases h.1),fun k=>⟨RepD.str _,⟨⟨fun i o hi=>(by cases hi),fun i i' o o' hi=>(by cases hi),fun i o hi=>(by cases hi)⟩,fun i b hb=>(by cases hb)⟩⟩⟩
end Go.Va
namespace Go.Va
open Go.RowKit
variable [Gv]
def KE(k:Nat):List U→List (Nat×V)
 |[]=>[]
 |u::r=>(k,.u u)::KE (k+1) r
def St.initH(us:List U)(h:List (Nat×Blk)):St:={ t:=KE 0 us,h:=h }
def St.clean(ids:List Nat)(st:St):St:={ st.on (B1 ids)with h:=Ds (fun i=> !ids.contains i) (st.on (B1 ids)).h }
def Cv:Nat:=3000000000000
def St.initG(us:List U)(gs:List C)(h:List (Nat×Blk)):St:=St.initH us (h++[(Cv,.gh gs)])
def Lc(T:AH)(rs:List ResultVar)(gs':List C)(h':List (Nat×Blk))(v:V)(e:Exit)(st:St):Prop:=
 (e= .ret∨e= .normal)∧ ∃(r1:List (Nat×Nat)) (gs0:List C),lk Cv (rns r1 st).h=some (.gh gs0)∧gs'=gs0.map (C.on (B1 (h'.map (·.1))))∧let s:=(rns r1 st).clean (h'.map (·.1));s.res T rs=some v∧AW s.h h'
section
variable {P:Program} {T:AH} {M Z:Addr→Prop} {w0 w:World} {ρ:AE} {st:St} {a:Act}
theorem Nv(ρ:AE)(w:World)(Z:Addr→Prop)(ids:List Nat):Cf ρ (Bj ids ρ) w w Z (B1 ids):=by
 intro c v h;have hk:Keep w w (Ar ρ Z) (Ar (Bj ids ρ) Z):=Keep.mono fun ad ho=>ho.imp id fun⟨i,o,hi,ho⟩=>⟨i,o,(A9 hi).2,ho⟩
 have key: ∀i,c.id? =some i→ids.contains i=true→RepC (Bj ids ρ) w Z c v:=fun i hi hm=>RepC.keep hk (fun k hk'=>by rw[hi]at hk';cases hk';exact D5 (by simpa using hm)) h
 cases c with
 |d x=>exact RepC.keep hk (fun _ h=>by cases h) h
 |nl=>exact h
 |bad=>exact h
 |sl i off n=>
  simp only[C.on,B1];split
  ·rename_i hm;exact key i rfl hm
  ·exact RepC.one h
 |ptr i off=>
  simp only[C.on,B1];split
  ·rename_i hm;exact key i rfl hm
  ·exact RepC.one h
 |mp q i=>
  simp only[C.on,B1];split
  ·rename_i hm;exact key i rfl hm
  ·exact RepC.one h
theorem Rel.clean(h:Rel M Z w0 ρ st a w)(ids:List Nat):Rel M Z w0 (Bj ids ρ) (st.clean ids) a w where
 fr:=h.fr
 heap:=⟨⟨fun j o hj=>h.heap.owns.cells j o (A9 hj).2,fun j j' o o' hj hj'=>h.heap.owns.apart j j' o o' (A9 hj).2 (A9 hj').2,fun j o hj=>h.heap.owns.lim j o (A9 hj).2⟩,fun j b hb=>by
  simp only[St.clean]at hb;rw[FZ]at hb;split at hb
  ·cases hb
  ·rename_i hj
   simp only[St.on]at hb;rw[BN,jze]at hb;obtain⟨b0,hb0,rfl⟩:=hb;obtain⟨o,ho,hr⟩:=h.heap.rep j b0 hb0;exact⟨o,(D5 (by simpa using hj)).trans ho,hr.turn (Nv ρ w Z ids) (Keep.mono fun ad ho=>ho.imp id fun⟨i,o,hi,ho⟩=>⟨i,o,(A9 hi).2,ho⟩) (fun _ _ _=>rfl) (fun _ _ _ h=>h)⟩⟩
 mine:=fun j o ad hj=>h.mine j o ad (A9 hj).2
 out:=h.out
 mz:=h.mz
 tmps:=fun t v hv=>by
  simp only[St.clean,St.on]at hv;rw[BN,jze]at hv;obtain⟨v0,hv0,rfl⟩:=hv;exact(h.tmps t v0 hv0).turn (Nv ρ w Z ids)
 defers:=h.defers
 mps:=h.mps.sub fun j o hj _=>(A9 hj).2
theorem Nc: ∀(us:List U) (k t:Nat) (v:V),lk t (KE k us)=some v→k≤t∧ ∃u,us[t - k]? =some u∧v= .u u
 |[],_,_,_,h=>by cases h
 |c::cs,k,t,v,h=>by
  simp only[KE,lk]at h;split at h
  ·rename_i e;subst e;cases h;exact⟨AO _,c,by simp,rfl⟩
  ·obtain⟨h1,c',h2,h3⟩:=Nc cs (k+1) t v h
   exact⟨by omega,c',by rw[show t - k=t - (k+1)+1 by omega];simpa using h2,h3⟩
theorem Z3(r0:List (Nat×Nat))(hT:A5 P T)(hm:P.follows .mixedOrders=true){f:FuncId}{fn:Func}{c:Code}{us:List U}{gs gs':List C}{h h':List (Nat×Blk)}{v:V}(hf:P.funcs[f]? =some fn)(hb:fn.body=some c)
  (hname : (fn.name == "runtime.NumGoroutine") = false) (hn : us.length ≤ fn.ntmps) (hys : fn.ntmps ≤ YS) (hok : B6 fn.ntmps [] c = true) (hG : lk Cv h = none) (hng : ∀ i cs, lk i h ≠ some (.gh cs)) (hng' : ∀ i cs, lk i h' ≠ some (.gh cs))
  (hw:Bl P T c (rns r0 (St.initG us gs h)) (Lc T fn.results.toList gs' h' v)):GJ P f us gs gs' h h' v:=by
 refine⟨⟨fn,hf,by rw[hb];rfl,hname⟩,fun {G1} w Z ρ0 vals hZ hh hcz hl0 hvals=> ?_⟩
 have hlen:vals.length=us.length:=hvals.1.symm
 refine calls_of_wp hf hb ?_;generalize htm:(vals.toArray++Array.replicate (fn.ntmps - vals.toArray.size) undef)=tm;have hsz:tm.size=fn.ntmps:=by rw[←htm];simp;omega
 have hgv: ∀t,t<vals.length→tm.getD t undef=vals.getD t undef:=fun t ht=>by
  rw[←htm,Cn,Array.getElem?_append_left (by simp;omega)]
  simp
 have hG0:ρ0 Cv=none:=by
  cases hq:ρ0 Cv with
  |none=>rfl
  |some o=>have:=hl0 _ _ hq;rw[hG]at this;cases this
 have hmp0:Mps ρ0 w:=Heap.mps hh hl0
 let og:Own:={ g:=0,o:=0,sz:=0,room:=0,app:=false,nil:=true }
 let ρG:AE:=upd ρ0 Cv (some og)
 have hhas: ∀ad,¬og.has ad:=fun ad hh=>by cases hh.1
 have hgs1: ∀i o,ρG i=some o→(∃ad,o.has ad)→ρ0 i=some o:=fun i o hi ⟨ad,ha⟩=>by
  by_cases e:i=Cv
  ·subst e;simp only[ρG,BZ]at hi;cases hi;exact(hhas ad ha).elim
  ·simpa only[ρG,BG _ _ e]using hi
 have hmono: ∀i o,ρ0 i=some o→ρG i=some o:=fun i o hi=>by
  by_cases e:i=Cv
  ·subst e;rw[hG0]at hi;cases hi
  ·exact(BG _ _ e).trans hi
 have hout: ∀ad,Ar ρG Z ad→Ar ρ0 Z ad:=fun ad ho=>ho.imp id fun⟨i,o,hi,ho⟩=>⟨i,o,hgs1 i o hi ⟨ad,ho⟩,ho⟩
 have hcells: ∀ad,Cells ρG ad→Cells ρ0 ad:=fun ad ⟨i,o,hi,ho⟩=>⟨i,o,hgs1 i o hi ⟨ad,ho⟩,ho⟩
 have hC: ∀(c:C) (y:Value),RepC ρ0 w Z c y→RepC ρG w Z c y:=fun c y hr=>by
  cases c with
  |d x=>exact RepD.keep (Keep.mono hout) hr
  |nl=>exact hr
  |bad=>exact hr
  |sl i off n=>obtain⟨o,ho,r⟩:=hr;exact⟨o,hmono i o ho,r⟩
  |ptr i off=>obtain⟨o,ho,r⟩:=hr;exact⟨o,hmono i o ho,r⟩
  |mp q i=>obtain⟨o,ho,r⟩:=hr;exact⟨o,hmono i o ho,r⟩
 have hU: ∀(u:U) (y:Value),RepU ρ0 w Z u y→RepU ρG w Z u y:=fun u y hr=>by
  cases u with
  |c x=>exact hC x y hr
  |agg cs=>obtain⟨vs,hv,hl,hr⟩:=hr;exact⟨vs,hv,hl,fun j x v hx hv=>hC x v (hr j x v hx hv)⟩
  |clo f cs=>obtain⟨vs,hv,hl,hr⟩:=hr;exact⟨vs,hv,hl,fun j x v hx hv=>hC x v (hr j x v hx hv)⟩
 have hmpG:Mps ρG w:=fun i o hi hm=>by
  by_cases e:i=Cv
  ·subst e;simp only[ρG,BZ]at hi;cases hi;cases hm.2
  ·simp only[ρG,BG _ _ e]at hi;exact hmp0 i o hi hm
 obtain⟨hho,hhr⟩:=hh
 let G2:Gv:=⟨fun j y=> ∃x,gs[j]? =some x∧RepC ρ0 w Z x y⟩
 have hheapG: @Heap G2 ρG w Z (h++[(Cv,.gh gs)]):=⟨⟨fun i o hi hg j hj=>by
   by_cases e:i=Cv
   ·subst e;simp only[ρG,BZ]at hi;cases hi;cases hg
   ·simp only[ρG,BG _ _ e]at hi;exact hho.cells i o hi hg j hj,
  fun i i' o o' hi hi' hne ad ho ho'=>hho.apart i i' o o' (hgs1 i o hi ⟨ad,ho⟩) (hgs1 i' o' hi' ⟨ad,ho'⟩) hne ad ho ho',
  fun i o hi=>by
   by_cases e:i=Cv
   ·subst e;simp only[ρG,BZ]at hi;cases hi;exact Nat.zero_le _
   ·simp only[ρG,BG _ _ e]at hi;exact hho.lim i o hi⟩,fun i b hb=>by
  rw[HQ]at hb
  cases hl:lk i h with
  |some b2=>
   rw[hl]at hb
   have hb:b2=b:=Bi hb
   subst hb;obtain⟨o,ho,hr⟩:=hhr i _ hl;refine⟨o,hmono i o ho,?_⟩;cases b2 with
   |row sz cs app=>obtain⟨q1,q2,q3,q4,q5⟩:=hr;exact⟨q1,q2,q3,q4,fun j x hx=>by obtain⟨v,hv,hd⟩:=q5 j x hx;exact⟨v,hv,hd.keep (Keep.mono hout)⟩⟩
   |box cs=>obtain⟨q1,q2,q3,q4⟩:=hr;exact⟨q1,q2,q3,fun j x hx=>by obtain⟨v,hv,h1,hd⟩:=q4 j x hx;exact⟨v,hv,h1,hC _ _ hd⟩⟩
   |fbox f cs=>obtain⟨q1,q2,q3,v,hv,vs,hvs,hl,hd⟩:=hr;exact⟨q1,q2,q3,v,hv,vs,hvs,hl,fun j x u hx hu=>hC _ _ (hd j x u hx hu)⟩
   |mp x=>exact hr
   |gh cs=>exact absurd hl (hng i cs)
  |none=>
   rw[hl]at hb
   simp only[Option.none_or,lk]at hb;split at hb
   ·rename_i e
    subst e;cases hb;exact⟨og,BZ _ _ _,rfl,⟨rfl,rfl⟩,fun j x hx y ⟨x',hx',hr⟩=>by rw[hx]at hx';cases hx';exact hC _ _ hr⟩
   ·cases hb⟩
 have hrel: @Rel G2 (Cells ρ0) Z w ρG (St.initG us gs h) { tmps:=tm,defers:=[] } w:=
  {fr:=⟨rfl,AO _,rfl,rfl,AO _,fun a v _ h=>h,fun _ _ _=>rfl,fun _ _ _=>rfl⟩
   heap:=hheapG
   mine:=fun i o ad hi ho=> .inl (hcells ad ⟨i,o,hi,ho⟩)
   out:=hZ
   mz:=hcz
   tmps:=fun t v hv=>by
    obtain⟨_,u,hu,rfl⟩:=Nc us 0 t v hv
    simp only[Nat.sub_zero]at hu;have ht:t<vals.length:=by rw[hlen];exact(jzg.1 hu).1
    rw[hgv t ht]
    exact hU _ _ (hvals.2 t u _ hu (by simp[ht]))
   defers:=rfl
   mps:=hmpG }
 have htr: ∀x r,lk YS (rns r0 (St.initG us gs h)).t≠some (.tr x r):=fun x r hx=>by
  have hx:=TrLe.rns r0 (s:=St.initG us gs h) _ _ hx;obtain⟨_,_,_,he⟩:=Nc us 0 YS _ hx;cases he
 obtain⟨ρi,hrel1⟩:=Rel.rns r0 hrel
 have hc:=Dr (P:=P) (T:=T) (X:=⟨Cells ρ0,Z,w,fn.ntmps,[],fun k=>tm.getD k undef,none,fun _=>False,fun _=>False⟩) hT (fun Y' h=>by cases h) hm c (Lc T fn.results.toList gs' h' v) _ w hok
  ⟨_,_,_,_,_,⟨fun k hk=>rfl,fun _=>⟨rfl,rfl,rfl⟩,hrel.fr.mono fun _ h=> .inl h,fun _ h=>h,fun _ h=> .inl h,fun x r hx=>absurd hx (htr x r)⟩,hrel1,hsz,hw⟩
 refine hc.mono' fun e a' w' hg=> ?_
 obtain⟨M1,Z1,w1,ρ1,st,hL,h1,h2,hend,r1,gs0,hgh,rfl,hres,hhp⟩:=hg
 obtain⟨rfl,rfl,rfl⟩:=hL.plain rfl
 obtain⟨ρ,h3⟩:=Rel.rns r1 h1
 have h4:=Rel.clean h3 (h'.map (·.1));obtain⟨x,hx,hrx⟩:=GT (P:=P) hT h4 hres;have hpost: ∃ρ',Fr (Cells ρ0) w1 w'∧ @Heap G1 ρ' w' Z1 h'∧(∀i o,ρ' i=some o→(lk i h').isSome=true)∧(∀ad,Cells ρ' ad→Cells ρ0 ad∨w1.heap.size≤ad.block)∧
   (∀(j:Nat) (c c':C),gs[j]? =some c→(gs0.map (C.on (B1 (h'.map (·.1)))))[j]? =some c'→ ∀y,RepC ρ0 w1 Z1 c y→RepC ρ' w' Z1 c' y)∧RepV ρ' w' Z1 v x:=by
  refine⟨Bj (h'.map (·.1)) ρ,h4.fr,@Heap.mk G1 _ _ _ _ h4.heap.owns fun i b hb=> ?_,fun i o hi=>UN (A9 hi).1,fun ad ⟨i,o,hi,ho⟩=>h4.mine i o ad hi ho,fun j c c' hc hc' y hy=> ?_,hrx⟩
  ·obtain⟨o,ho,hr⟩:=h4.heap.rep i b (IN hhp i b hb)
   refine⟨o,ho,?_⟩
   cases b with
   |gh cs=>exact absurd hb (hng' i cs)
   |_=>exact hr
  ·rw[Bf,jze]at hc'
   obtain⟨c0,hc0,rfl⟩:=hc'
   obtain⟨o,ho,_,_,hr⟩:=h3.heap.rep _ _ hgh
   exact Nv ρ w' Z1 _ _ _ (hr j c0 hc0 y ⟨c,hc,hy⟩)
 rcases hend with rfl|rfl
 ·exact⟨h1.defers,x,hx,x,rfl,hpost⟩
 ·exact⟨h1.defers,x,hx,x,rfl,hpost⟩
end
end Go.Va
namespace Go.Va
def BO{α:Type}(n:Nat)(k:Nat→α):α:=Nat.rec (motive:=fun _=>α) (k 0) (fun p _=>k (p+1)) n
theorem Dg{α:Type}(n:Nat)(k:Nat→α):BO n k=k n:=by cases n<;>rfl
def Jx{α:Type}:Int→(Int→α)→α
 | .ofNat n,k=>BO n fun n=>k (.ofNat n)
 | .negSucc n,k=>BO n fun n=>k (.negSucc n)
theorem P9{α:Type}(n:Int)(k:Int→α):Jx n k=k n:=by cases n<;>simp[Jx,Dg]
def Ju{α:Type}:Bool→(Bool→α)→α
 |true,k=>k true
 |false,k=>k false
theorem MQ{α:Type}(b:Bool)(k:Bool→α):Ju b k=k b:=by cases b<;>rfl
def QQ{α:Type}(x:IntKind)(k:IntKind→α):α:=match x with| .i8=>k .i8| .i16=>k .i16| .i32=>k .i32| .i64=>k .i64| .u8=>k .u8| .u16=>k .u16| .u32=>k .u32| .u64=>k .u64
theorem jiB{α:Type}(x:IntKind)(k:IntKind→α):QQ x k=k x:=by cases x<;>rfl
mutual
def fD{α:Type}:D→(D→α)→α
 | .int q n,k=>QQ q fun q=>Jx n fun n=>k (.int q n)
 | .bool b,k=>Ju b fun b=>k (.bool b)
 | .str s,k=>k (.str s)
 | .slice n cs,k=>BO n fun n=>De cs fun cs=>k (.slice n cs)
 | .ref cs,k=>De cs fun cs=>k (.ref cs)
 | .fn f cs,k=>BO f fun f=>De cs fun cs=>k (.fn f cs)
 | .nilFn,k=>k .nilFn
 | .nilPtr,k=>k .nilPtr
 | .iface t cs,k=>BO t fun t=>De cs fun cs=>k (.iface t cs)
 | .lit x,k=>k (.lit x)
 | .any,k=>k .any
def De{α:Type}:List D→(List D→α)→α
 |[],k=>k []
 |x::r,k=>fD x fun x=>De r fun r=>k (x::r)
end
mutual
theorem J3{α:Type}: ∀(x:D) (k:D→α),fD x k=k x
 | .int q n,k=>by simp only[fD,jiB,P9]
 | .bool b,k=>by simp only[fD,MQ]
 | .str s,k=>by simp only[fD]
 | .slice n cs,k=>by simp only[fD,Dg,EX cs]
 | .ref cs,k=>by simp only[fD,EX cs]
 | .fn f cs,k=>by simp only[fD,Dg,EX cs]
 | .nilFn,k=>by simp only[fD]
 | .nilPtr,k=>by simp only[fD]
 | .iface t cs,k=>by simp only[fD,Dg,EX cs]
 | .lit x,k=>by simp only[fD]
 | .any,k=>by simp only[fD]
theorem EX{α:Type}: ∀(l:List D) (k:List D→α),De l k=k l
 |[],k=>by simp only[De]
 |x::r,k=>by simp only[De,J3 x,EX r]
end
def Cg{α β:Type}(f:β→(β→α)→α):List β→(List β→α)→α
 |[],k=>k []
 |x::r,k=>f x fun x=>Cg f r fun r=>k (x::r)
theorem Cy{α β:Type}{f:β→(β→α)→α}(hf: ∀x k,f x k=k x): ∀(l:List β) (k:List β→α),Cg f l k=k l
 |[],k=>rfl
 |x::r,k=>by simp only[Cg,hf,Cy hf r]
def HE{α:Type}(s:St)(k:St→α):α:=k s
theorem Jf{α:Type}(s:St)(k:St→α):HE s k=k s:=rfl
def fA{α:Type}:A→(A→α)→α
 | .c x,k=>fD x fun x=>k (.c x)
 | .agg cs,k=>De cs fun cs=>k (.agg cs)
theorem Qt{α:Type}(x:A)(k:A→α):fA x k=k x:=by cases x<;>simp only[fA,J3,EX]
def Ik{α:Type}:RC→(RC→α)→α
 | .d x,k=>fD x fun x=>k (.d x)
 | .own a b cs,k=>BO a fun a=>BO b fun b=>De cs fun cs=>k (.own a b cs)
theorem Uh{α:Type}(x:RC)(k:RC→α):Ik x k=k x:=by cases x<;>simp only[Ik,J3,Dg,EX]
def Ii{α:Type}:RU→(RU→α)→α
 | .c x,k=>Ik x fun x=>k (.c x)
 | .agg cs,k=>Cg Ik cs fun cs=>k (.agg cs)
theorem RN{α:Type}(x:RU)(k:RU→α):Ii x k=k x:=by cases x<;>simp only[Ii,Uh,Cy (f:=Ik) Uh]
def fR{α:Type}:R→(R→α)→α
 | .u x,k=>Ii x fun x=>k (.u x)
 | .tup xs,k=>Cg Ii xs fun xs=>k (.tup xs)
theorem jf9{α:Type}(x:R)(k:R→α):fR x k=k x:=by cases x<;>simp only[fR,RN,Cy (f:=Ii) RN]
def IR{α:Type}(L:List (Nat×α)):List Nat→List (Nat×α)
 |[]=>[]
 |k::r=>match lk k L with|some v=>(k,v)::IR L r|none=>IR L r
theorem NJ{α:Type}(L:List (Nat×α)): ∀l,AW L (IR L l)
 |[]=>trivial
 |k::r=>by
  unfold IR;split
  ·rename_i v h
   exact⟨h,NJ L r⟩
  ·exact NJ L r
structure Cal2 where
 a:FuncId→Nat→Nat→List D→List A→Option (Nat×List D)
 h:FuncId→List U→List (Nat×Blk)→List C→Option (List C×List (Nat×Blk)×V)
structure Sh2 where
 sz:FuncId→Option Nat
 sh:FuncId→Bool
structure CalOk (P:Program) (c:Cal2):Prop where
 a: ∀g sz n cs aa m cs',c.a g sz n cs aa=some (m,cs')→CallsA P g sz n cs aa m cs'
 h: ∀g us h gs gs' h' v,c.h g us h gs=some (gs',h',v)→GJ P g us gs gs' h h' v
def fC{α:Type}:C→(C→α)→α
 | .d x,k=>fD x fun x=>k (.d x)
 | .nl,k=>k .nl
 | .sl i o n,k=>BO i fun i=>BO o fun o=>BO n fun n=>k (.sl i o n)
 | .ptr i o,k=>BO i fun i=>BO o fun o=>k (.ptr i o)
 | .bad,k=>k .bad
 | .mp q i,k=>Ju q fun q=>BO i fun i=>k (.mp q i)
theorem Fp{α:Type}(c:C)(k:C→α):fC c k=k c:=by cases c<;>simp only[fC,J3,Dg,MQ]
def fU{α:Type}:U→(U→α)→α
 | .c x,k=>fC x fun x=>k (.c x)
 | .agg cs,k=>Cg fC cs fun cs=>k (.agg cs)
 | .clo f cs,k=>BO f fun f=>Cg fC cs fun cs=>k (.clo f cs)
theorem Nj{α:Type}(u:U)(k:U→α):fU u k=k u:=by cases u<;>simp only[fU,Fp,Dg,Cy (f:=fC) Fp]
def KO{α:Type}:List (ByteArray×Int)→(List (ByteArray×Int)→α)→α
 |[],k=>k []
 |(s,n)::r,k=>Jx n fun n=>KO r fun r=>k ((s,n)::r)
theorem NV{α:Type}: ∀(l:List (ByteArray×Int)) (k:List (ByteArray×Int)→α),KO l k=k l
 |[],k=>rfl
 |(s,n)::r,k=>by simp only[KO,P9,NV r]
def Ei{α:Type}:Nat×Blk→(Nat×Blk→α)→α
 |(i,.row sz cs app),k=>BO i fun i=>BO sz fun sz=>De cs fun cs=>Ju app fun app=>k (i,.row sz cs app)
 |(i,.box cs),k=>BO i fun i=>Cg fC cs fun cs=>k (i,.box cs)
 |(i,.fbox f cs),k=>BO i fun i=>BO f fun f=>Cg fC cs fun cs=>k (i,.fbox f cs)
 |(i,.mp (.mp es)),k=>BO i fun i=>KO es fun es=>k (i,.mp (.mp es))
 |(i,.mp (.it s p)),k=>BO i fun i=>BO p fun p=>k (i,.mp (.it s p))
 |(i,.gh cs),k=>BO i fun i=>Cg fC cs fun cs=>k (i,.gh cs)
theorem Ol{α:Type}(b:Nat×Blk)(k:Nat×Blk→α):Ei b k=k b:=by
 obtain⟨i,b⟩:=b
 cases b with
 |row=>simp only[Ei,Dg,EX,MQ]
 |box=>simp only[Ei,Dg,Cy (f:=fC) Fp]
 |fbox=>simp only[Ei,Dg,Cy (f:=fC) Fp]
 |mp x=>cases x<;>simp only[Ei,Dg,NV]
 |gh=>simp only[Ei,Dg,Cy (f:=fC) Fp]
def fV{α:Type}:V→(V→α)→α
 | .u u,k=>fU u fun u=>k (.u u)
 | .tup us,k=>Cg fU us fun us=>k (.tup us)
 | .tr x ys,k=>k (.tr x ys)
theorem ji4{α:Type}(v:V)(k:V→α):fV v k=k v:=by cases v<;>simp only[fV,Nj,Cy (f:=fU) Nj]
section
variable (T:AH) (cal:FuncId→List A→Option R) (sA:Sh2) (calA:Cal2)
def Mh(dst:Option Nat)(st:St)(g sz:Nat)(us:List U):Option St:=
 match us,dst with
 | .c .nl::us',some d=>let fz:=st.reachU us';(us'.mapM (U.toA fz st.h)).bind fun aa=>(calA.a g sz 0 [] aa).map fun r=>(((((st.freeze fz).new d (.row sz [] true)).drop d).new d (.row sz r.2 true)).put (some d) (vC (.sl d 0 r.1)))
 | .c (.sl k 0 n)::us',some d=>
  let fz:=(st.reachU us').filter fun i=>i !=k
  let s1:=st.freeze fz
  match lk k s1.h with
  |some (.row z cs true)=>if z=sz then (us'.mapM (U.toA fz st.h)).bind fun aa=>(calA.a g sz n cs aa).map fun r=>((s1.drop k).new d (.row sz r.2 true)).put (some d) (vC (.sl d 0 r.1)) else none
  |_=>none
 |_,_=>none
def KC(us:List U):List Nat:=us.flatMap fun u=>u.all.filterMap C.id?
def clos(h:List (Nat×Blk)):Nat→List Nat→List Nat→List Nat
 |0,_,seen=>seen
 |_+1,[],seen=>seen
 |n+1,i::r,seen=>if seen.contains i then clos h n r seen else match lk i h with
  |some (.box bs)=>clos h n (bs.filterMap C.id? ++r) (i::seen)
  |some (.fbox _ bs)=>clos h n (bs.filterMap C.id? ++r) (i::seen)
  |some _=>clos h n r (i::seen)
  |none=>clos h n r seen
def Gx(h:List (Nat×Blk))(all:List Nat):List Nat→List (Nat×Blk)
 |[]=>[]
 |i::r=>match lk i h with|some b=>(i,b.on (B1 all))::Gx h all r|none=>Gx h all r
def ML:Nat:=100000
def Ek(h:List (Nat×Blk)):Nat:=h.foldl (fun m e=>if Nat.blt e.1 Cv&&Nat.ble m e.1 then e.1 else m) ML
def Sv(h:List (Nat×Blk)):List Nat:=match lk (Ek h) h with|some _=>[Ek h]|none=>[]
def EB(ids:List Nat):List C→List C→List C
 |[],acc=>acc
 |c::r,acc=>match c.id? with
  |some i=>if ids.contains i then (if acc.any (C.same c) then EB ids r acc else EB ids r (c::acc)) else EB ids r acc
  |none=>EB ids r acc
def I0(ids:List Nat):List U→List C→List C
 |[],acc=>acc
 | .c x::r,acc=>I0 ids r (EB ids [x] acc)
 | .agg cs::r,acc=>I0 ids r (EB ids cs acc)
 | .clo _ cs::r,acc=>I0 ids r (EB ids cs acc)
def Jq(ids:List Nat):List (Nat×V)→List C→List C
 |[],acc=>acc
 |(_,.u u)::r,acc=>Jq ids r (I0 ids [u] acc)
 |(_,.tup us)::r,acc=>Jq ids r (I0 ids us acc)
 |(_,.tr _ _)::r,acc=>Jq ids r acc
def Hu(ids:List Nat):List (Nat×Blk)→List C→List C
 |[],acc=>acc
 |(i,b)::r,acc=>if ids.contains i then Hu ids r acc else match b with
  | .box cs=>Hu ids r (EB ids cs acc)
  | .fbox _ cs=>Hu ids r (EB ids cs acc)
  | .gh cs=>Hu ids r (EB ids cs acc)
  |_=>Hu ids r acc
def jen:V→Bool
 | .tr _ _=>false
 |_=>true
def Nt(dst:Option Nat)(st:St)(g:FuncId)(us:List U):Option St:=
 let ids:=clos st.h 1000 (KC us++Sv st.h) []
 if ids.all (fun i=>(lk i st.h).isSome)=true then
  Cg fC (Hu ids st.h (Jq ids st.t [])) fun gs=>(calA.h g (us.map (U.on (B1 ids))) (Gx st.h ids ids) gs).bind fun r=>
   if jen r.2.2=true then some (st.backH dst ids ((r.2.1.map (·.1)).filter fun i=> !ids.contains i) gs r.1 r.2.1 r.2.2) else none
 else none
def I7(dst:Option Nat)(st:St)(g:FuncId)(caps:List D)(us:List U):Option St:=
 match sA.sz g,caps with
 |some sz,[]=>Mh calA dst st g sz us
 |_,_=>if sA.sh g=true∧caps=[] then Nt calA dst st g us else (st.argsW (st.reachU us) us caps).bind fun aa=>(cal g aa).map fun r=>st.back dst (st.reachU us) r
def PU(dst:Option Nat)(st:St)(us:List U)(u:U):Option St:=
 match u with
 | .c (.d (.fn g caps))=>I7 cal sA calA dst st g caps us
 | .clo g cs=>I7 cal sA calA dst st g [] (us++cs.map .c)
 |_=>none
def JZ(o:Oper)(st:St):Option St:=
 match o.op with
 | .call { callee:= .value f,args,.. }=>(st.evU f).bind fun u=>(args.toList.mapM st.evU).bind fun us=>PU cal sA calA o.dst st us u
 |_=>DH T o st
def KR(ops:List Oper)(o:Oper)(st:St):Option St:=
 match o.guard with
 |none=>JZ T cal sA calA o st
 |some (j,want)=>
  match (ops[j]?).bind (·.dst)with
  |some d=>
   (match lk d st.t with
   |some (.u (.c (.d (.bool b))))=>if b=want then JZ T cal sA calA o (st.put (some d) (vB want)) else some ((st.put (some d) (vB !want)).put o.dst (.tup []))
   |some (.tup [])=>some (st.put o.dst (.tup []))
   |_=>none)
  |none=>none
def H2(ops:List Oper):List Oper→St→Option St
 |[],st=>some st
 |o::r,st=>(KR T cal sA calA ops o st).bind (H2 ops r)
def JW(d:Option Nat)(E:St)(g:FuncId)(caps:List D)(us:List U):Option Eff:=
 (E.argsW (E.reachU us) us caps).bind fun aa=>(cal g aa).bind fun r=>if r.flat=true∨FY us=true then some (Ec d r) else none
def Kh(o:Oper)(E:St):Option Eff:=
 match o.op with
 | .call { callee:= .value f,args,.. }=>(E.evU f).bind fun u=>(args.toList.mapM E.evU).bind fun us=>
  (match u with
  | .c (.d (.fn g caps))=>JW cal o.dst E g caps us
  | .clo g cs=>JW cal o.dst E g [] (us++cs.map .c)
  |_=>none)
 |_=>effOp T o E
def JL(want:Bool)(v:Option V)(k1:Option Eff):Option Eff:=
 match v with
 |some (.u (.c (.d (.bool b))))=>if b=want then k1 else some (.val (.tup []))
 |some (.tup [])=>some (.val (.tup []))
 |_=>none
def JH(ops:List Oper)(o:Oper)(E:St):Option Eff:=
 match o.guard with
 |none=>Kh T cal o E
 |some (j,want)=>match (ops[j]?).bind (·.dst)with|some d=>JL want (lk d E.t) (Kh T cal o E)|none=>none
def K4(ops:List Oper)(o:Oper)(E:St):Option Eff:=
 match o.guard with
 |none=>GG T o E
 |some (j,want)=>match (ops[j]?).bind (·.dst)with|some d=>JL want (lk d E.t) (GG T o E)|none=>none
def NR(o:Oper)(E:St):Option Eff:=
 match o.guard,o.op with
 |none,.call { callee:= .value f,args,.. }=>(E.evU f).bind fun u=>(args.toList.mapM E.evU).bind fun us=>
  (match u with
  | .c (.d (.fn g []))=>(sA.sz g).bind fun sz=>(match us,o.dst with
   | .c (.sl b 0 n)::us',some d=>(match lk b E.h with
    |some (.row z cs true)=>if z=sz then (us'.mapM (U.toA [] E.h)).bind fun aa=>(calA.a g sz n cs aa).map fun r=> .app b (.row sz r.2 true) (vC (.sl d 0 r.1)) else none
    |_=>none)
   | .c .nl::us',some d=>(us'.mapM (U.toA [] E.h)).bind fun aa=>(calA.a g sz 0 [] aa).map fun r=> .new (.row sz r.2 true) (vC (.sl d 0 r.1))
   |_,_=>none)
  |_=>none)
 |_,_=>none
def TS(d:Option Nat)(x:Eff):Option Eff:=
 match x with
 | .new (.row sz ds true) (.u (.c (.sl e 0 len)))=>if d=some e∧ds.length=len*sz then some (.dat (.slice len ds)) else none
 | .val v=>some (.val v)
 |_=>none
def Hv(ops:List Oper):List DI→List Oper→St→Option (List Oper×St)
 |[],rest,S=>some (rest,S)
 |i::is,o::r,S=>
  (if i.k=4 then K4 T ops o (seen i S) else if i.k=5 then NR sA calA o (seen i S) else if i.k=6 then (JH T cal ops o (seen i S)).bind (TS o.dst) else JH T cal ops o (seen i S)).bind fun x=>
   if DF i (o.dst.getD 0) x=true then Hv ops is r (L9 o.dst x S) else none
 |_::_,[],_=>none
def Rr(st:St)(ts:List Nat):List Nat:=(ts.flatMap fun t=>match lk t st.t with|some (.u u)=>DZ st.h 5 u.all|_=>[]).filter fun i=>match lk i st.h with|some (.row ..)=>true|_=>false
def Fm(ops:List Oper):List Seg→List Oper→St→Option St
 |[],_,st=>some st
 | .one::r,o::rest,st=>(KR T cal sA calA ops o st).bind fun s=>Fm ops r rest s
 | .one::_,[],_=>none
 | .any ts ds is::r,rest,st=>(Hv T cal sA calA ops is rest (purges ds (st.freeze (Rr st ts)))).bind fun p=>Fm ops r p.1 p.2
def I4{α:Type}(L:List (Nat×α)):List (Nat×α)→List (Nat×α)
 |[]=>[]
 |(k,_)::r=>match lk k L with
  |some v=>(k,v)::I4 L r
  |none=>I4 L r
def Hj(l:List Nat)(s:St):St:=⟨IR s.t l,I4 s.h s.h⟩
def HF(l:List Nat)(f:St→Option (Exit×St)):Nat→St→Option (Exit×St)
 |0,_=>none
 |n+1,st=>(f st).bind fun p=>match p.1 with| .normal=>HE (Hj l p.2) fun s=>HF l f n s|_=>some p
abbrev HA:=Nat→Option (List (List Nat)×List Seg)
def evC(pln:HA)(l:List Nat)(N:Nat):Code→St→Option (Exit×St)
 | .skip,st=>some (.normal,st)
 | .region id ops draw,st=>
  if draw then (pln id).bind fun p=>(Fm T cal sA calA ops.toList p.2 ops.toList st).bind fun s=>HE s fun s=>some (.normal,s)
  else (H2 T cal sA calA ops.toList ops.toList st).bind fun s=>HE s fun s=>some (.normal,s)
 | .seq a b,st=>(evC pln l N a st).bind fun p=>match p.1 with| .normal=>evC pln l N b p.2|_=>some p
 | .cond c x y,st=>match st.evB c with|some true=>evC pln l N x st|some false=>evC pln l N y st|none=>none
 | .block id c,st=>(evC pln l N c st).map fun p=>match p.1 with| .exit j=>if j=id then (.normal,p.2) else p|_=>p
 | .loop c,st=>HE (Hj l st) fun s=>HF l (evC pln l N c) N s
 | .exit id,st=>some (.exit id,st)
 | .ret,st=>some (.ret,st)
 | .scope c,st=>(evC pln l N c st).bind fun p=>match p.1 with| .goto _=>none|_=>some p
 | .label _,st=>some (.normal,st)
 |_,_=>none
def Cq(pln:HA):Code→Bool
 | .region id ops draw=> !draw||(match pln id with|some p=>Jy ops.toList p.1 p.2|none=>true)
 | .seq a b=>Cq pln a&&Cq pln b
 | .cond _ x y=>Cq pln x&&Cq pln y
 | .block _ c=>Cq pln c
 | .loop c=>Cq pln c
 | .scope c=>Cq pln c
 |_=>true
def Ur(st:St):C→Bool
 | .sl i 0 n=>(match lk i st.h with|some (.row sz cs true)=>decide (cs.length=n*sz)|_=>false)
 |_=>false
def I6(st:St)(c:C):Option RC:=
 match c with
 | .sl i 0 n=>(match lk i st.h with|some (.row sz cs true)=>if cs.length=n*sz then some (.own sz n cs) else none|_=>none)
 |_=>none
def KB(st:St)(pure:Bool)(c:C):Option RC:=if pure=true∧c.id?.isSome=true then none else (st.cD c).map .d
def EN(st:St)(pure:Bool):U→Option RU
 | .c x=>(KB st pure x).map .c
 | .agg cs=>(cs.mapM (KB st pure)).map .agg
 | .clo _ _=>none
def NH(st:St)(v:V):Option R:=
 match v with
 | .u (.c x)=>if Ur st x then (I6 st x).map fun r=> .u (.c r) else (EN st false (.c x)).map .u
 | .u u=>(EN st false u).map .u
 | .tup (.c x::us)=>if Ur st x&&us.all (fun u=>u.all.all fun c=>c.id?.isNone) then (I6 st x).bind fun r=>(us.mapM (EN st true)).map fun rs=> .tup (.c r::rs)
  else ((U.c x::us).mapM (EN st false)).map .tup
 | .tup us=>(us.mapM (EN st false)).map .tup
 |_=>none
end
section
variable {P:Program} {T:AH} {cal:FuncId→List A→Option R} {sA:Sh2} {calA:Cal2}
theorem jhb(hA:CalOk P calA){dst:Option Nat}{st s:St}{g sz:Nat}{us:List U}{K:St→Prop}
  (h:Mh calA dst st g sz us=some s) (hk:K s):DM P dst st K g [] us:=by
 unfold Mh at h;split at h
 ·rename_i us' d
  simp only[jzd,jze]at h;obtain⟨aa,haa,r,hr,rfl⟩:=h;exact .inr (.inr (.inr (.inr (.inl (.inr (.inr (.inr (.inr (.inl ⟨rfl,_,sz,r.1,d,r.2,us',aa,rfl,haa,rfl,hA.a _ _ _ _ _ _ _ hr,hk⟩)))))))))
 ·rename_i k n us' d
  simp only at h;split at h
  ·rename_i z cs hl
   split at h
   ·rename_i hz
    subst hz;simp only[jzd,jze]at h;obtain⟨aa,haa,r,hr,rfl⟩:=h;refine .inr (.inr (.inr (.inr (.inl (.inr (.inr (.inr (.inl ⟨rfl,_,k,n,z,r.1,d,cs,r.2,us',aa,rfl,?_,hl,haa,rfl,hA.a _ _ _ _ _ _ _ hr,hk⟩))))))));simp
   ·cases h
  ·cases h
 ·cases h
theorem K3{h:List (Nat×Blk)}{all:List Nat}{i:Nat}{b:Blk}: ∀{l:List Nat},lk i (Gx h all l)=some b→i∈l∧ ∃b0,lk i h=some b0∧b=b0.on (B1 all)
 |[],hb=>by cases hb
 |j::r,hb=>by
  unfold Gx at hb;split at hb
  ·rename_i b0 hl
   by_cases e:i=j
   ·subst e;rw[Bt]at hb;cases hb;exact⟨by simp,b0,hl,rfl⟩
   ·rw[BD e]at hb
    obtain⟨h1,h2⟩:=K3 hb
    exact⟨by simp[h1],h2⟩
  ·obtain⟨h1,h2⟩:=K3 hb
   exact⟨by simp[h1],h2⟩
theorem TR{h:List (Nat×Blk)}{all:List Nat}{i:Nat}(hi:(lk i h).isSome=true): ∀{l:List Nat},i∈l→(lk i (Gx h all l)).isSome=true
 |j::r,hm=>by
  unfold Gx;by_cases e:i=j
  ·subst e;obtain⟨b,hb⟩:=Option.isSome_iff_exists.1 hi;rw[hb]
   dsimp only
   rw[Bt]
   rfl
  ·have hr:=TR (all:=all) hi (l:=r) (by simpa [e]using hm)
   split
   ·rw[BD e];exact hr
   ·exact hr
theorem jjR(hA:CalOk P calA){dst:Option Nat}{st s:St}{g:FuncId}{us:List U}{K:St→Prop}(h:Nt calA dst st g us=some s)(hk:K s):Rx P dst st K g [] us:=by
 unfold Nt at h;simp only at h;generalize clos st.h 1000 (KC us++Sv st.h) []=ids at h;split at h
 case isFalse=>cases h
 rename_i hids
 rw[jzy]at hids
 rw[Cy (f:=fC) Fp,jzd]at h
 obtain⟨r,hr,h⟩:=h
 split at h
 case isFalse=>cases h
 rename_i hnt
 cases h;refine⟨rfl,_,r.1,_,r.2.1,r.2.2,ids,_,hA.h _ _ _ _ _ _ _ hr,fun x q e=>(by rw[e]at hnt;cases hnt),⟨fun i b hb=>K3 hb,fun i hi=>TR (hids i hi) hi,fun i b hb=> ?_⟩,hk⟩
 by_cases e:i∈ids
 ·exact .inl e
 ·refine .inr ?_;rw[List.mem_filter];exact⟨RP hb,by simpa using e⟩
theorem UM(hc: ∀g aa r,cal g aa=some r→CallsF P g aa r)(hA:CalOk P calA){dst:Option Nat}{st s:St}{g:FuncId}{caps:List D}{us:List U}{K:St→Prop}
  (h:I7 cal sA calA dst st g caps us=some s) (hk:K s):DM P dst st K g caps us:=by
 unfold I7 at h;split at h
 ·exact jhb hA h hk
 ·split at h
  case isTrue hs=>
   obtain⟨_,rfl⟩:=hs
   exact .inr (.inr (.inr (.inr (.inl (.inr (.inr (.inr (.inr (.inr (jjR hA h hk))))))))))
  simp only[jzd,jze]at h;obtain⟨aa,haa,r,hr,rfl⟩:=h;exact .inl ⟨aa,haa,r,hc _ _ _ hr,hk⟩
theorem Sa(hc: ∀g aa r,cal g aa=some r→CallsF P g aa r)(hA:CalOk P calA){o:Oper}{st s:St}{K:St→Prop}
  (h:JZ T cal sA calA o st=some s) (hk:K s):wpOp P T o st K:=by
 unfold JZ at h;unfold wpOp;split at h
 ·rename_i f args ts ho
  rw[ho]
  simp only[jzd]at h;obtain⟨u,hu,us,hus,h⟩:=h;refine⟨u,hu,?_⟩;unfold PU at h;unfold Eh;split at h
  ·exact⟨us,hus,UM hc hA h hk⟩
  ·exact⟨us,hus,UM hc hA h hk⟩
  ·cases h
 ·rename_i hno
  split
  ·rename_i f args ts ho
   exact absurd ho (hno f args ts)
  ·exact⟨s,h,hk⟩
theorem QE(hc: ∀g aa r,cal g aa=some r→CallsF P g aa r)(hA:CalOk P calA){ops:List Oper}{o:Oper}{st s:St}{K:St→Prop}
  (h:KR T cal sA calA ops o st=some s) (hk:K s):Ca P T ops o st K:=by
 unfold KR at h;unfold Ca;split at h
 ·rename_i hg
  rw[hg]
  exact Sa hc hA h hk
 ·rename_i j want hg
  rw[hg]
  dsimp only
  split at h
  ·rename_i d hd
   rw[hd]
   dsimp only
   unfold EW;split at h
   ·rename_i b hb
    rw[hb]
    dsimp only
    split at h
    ·rename_i e
     exact⟨fun _=>Sa hc hA h hk,fun e2=>by subst e;cases b<;>cases e2⟩
    ·rename_i e
     refine⟨fun e2=>absurd e2 e,fun _=> ?_⟩
     unfold Gr;cases h;exact hk
   ·rename_i hb
    rw[hb]
    dsimp only
    unfold Gr;cases h;exact hk
   ·cases h
  ·cases h
theorem Tv(hc: ∀g aa r,cal g aa=some r→CallsF P g aa r)(hA:CalOk P calA){ops:List Oper}: ∀{l:List Oper} {st s:St} {K:St→Prop},
  H2 T cal sA calA ops l st=some s→K s→EV P T ops l st K
 |[],st,s,K,h,hk=>by
  simp only[H2,Option.some.injEq]at h;subst h;exact hk
 |o::r,st,s,K,h,hk=>by
  simp only[H2,jzd]at h;obtain⟨s1,h1,h2⟩:=h;exact QE hc hA h1 (Tv hc hA h2 hk)
theorem SR(hc: ∀g aa r,cal g aa=some r→CallsF P g aa r){d:Option Nat}{E:St}{g:FuncId}{caps:List D}{us:List U}{x:Eff}{k:Eff→Prop}(h:JW cal d E g caps us=some x)(hk:k x):GZ P d E k g caps us:=by
 unfold JW at h;simp only[jzd]at h;obtain⟨aa,haa,r,hr,h⟩:=h;split at h
 ·rename_i hf
  cases h;exact⟨aa,haa,r,hc _ _ _ hr,hf,hk⟩
 ·cases h
theorem UW(hc: ∀g aa r,cal g aa=some r→CallsF P g aa r){o:Oper}{E:St}{x:Eff}{k:Eff→Prop}(h:Kh T cal o E=some x)(hk:k x):Bo P T o E k:=by
 unfold Kh at h;unfold Bo;split at h
 ·rename_i f args ts ho
  rw[ho]
  simp only[jzd]at h;obtain⟨u,hu,us,hus,h⟩:=h;refine⟨u,hu,?_⟩;unfold Gl;split at h
  ·exact⟨us,hus,SR hc h hk⟩
  ·exact⟨us,hus,SR hc h hk⟩
  ·cases h
 ·rename_i hno
  split
  ·rename_i f args ts ho
   exact absurd ho (hno f args ts)
  ·exact⟨x,h,hk⟩
theorem RR{want:Bool}{v:Option V}{k1:Option Eff}{x:Eff}{k:Eff→Prop}{K1:Prop}(h1:k1=some x→K1)(h:JL want v k1=some x)(hk:k x):CS want v K1 (k (.val (.tup []))):=by
 unfold JL at h;unfold CS;split at h
 ·rename_i b
  split at h
  ·rename_i e
   exact⟨fun _=>h1 h,fun e2=>by subst e;cases b<;>cases e2⟩
  ·rename_i e
   cases h;exact⟨fun e2=>absurd e2 e,fun _=>hk⟩
 ·cases h;exact hk
 ·cases h
theorem Uq(hc: ∀g aa r,cal g aa=some r→CallsF P g aa r){ops:List Oper}{o:Oper}{E:St}{x:Eff}{k:Eff→Prop}(h:JH T cal ops o E=some x)(hk:k x):CN P T ops o E k:=by
 unfold JH at h;unfold CN;split at h
 ·rename_i hg
  rw[hg]
  exact UW hc h hk
 ·rename_i j want hg
  rw[hg]
  dsimp only
  split at h
  ·rename_i d hd
   rw[hd]
   exact RR (fun e=>UW hc e hk) h hk
  ·cases h
theorem jil{ops:List Oper}{o:Oper}{E:St}{x:Eff}{k:Eff→Prop}(h:K4 T ops o E=some x)(hk:k x):Dx T ops o E k:=by
 unfold K4 at h;unfold Dx;split at h
 ·rename_i hg
  rw[hg]
  exact⟨x,h,hk⟩
 ·rename_i j want hg
  rw[hg]
  dsimp only
  split at h
  ·rename_i d hd
   rw[hd]
   exact RR (fun e=>⟨x,e,hk⟩) h hk
  ·cases h
theorem jeG(hA:CalOk P calA){o:Oper}{E:St}{x:Eff}{k:Eff→Prop}(h:NR sA calA o E=some x)(hk:k x):Fb P o E k:=by
 unfold NR at h;unfold Fb;split at h
 ·rename_i f args ts hg ho
  rw[hg,ho]
  dsimp only
  simp only[jzd]at h;obtain⟨u,hu,us,hus,h⟩:=h;refine⟨u,hu,?_⟩;unfold GW;split at h
  ·rename_i g
   simp only[jzd]at h;obtain⟨sz,hsz,h⟩:=h;refine⟨us,hus,?_⟩;split at h
   ·rename_i b n us' d hd
    split at h
    ·rename_i z cs hl
     split at h
     ·rename_i hz
      subst hz;simp only[jzd,jze]at h;obtain⟨aa,haa,r,hr,rfl⟩:=h;exact .inl ⟨b,n,z,r.1,d,cs,r.2,us',aa,rfl,hl,haa,hd,hA.a _ _ _ _ _ _ _ hr,hk⟩
     ·cases h
    ·cases h
   ·rename_i us' d hd
    simp only[jzd,jze]at h;obtain⟨aa,haa,r,hr,rfl⟩:=h;exact .inr ⟨sz,r.1,d,r.2,us',aa,rfl,haa,hd,hA.a _ _ _ _ _ _ _ hr,hk⟩
   ·cases h
  ·cases h
 ·cases h
theorem Rq(hc: ∀g aa r,cal g aa=some r→CallsF P g aa r)(hA:CalOk P calA){ops:List Oper}: ∀{is:List DI} {rest:List Oper} {S:St} {p:List Oper×St} {fin:List Oper→St→Prop},
  Hv T cal sA calA ops is rest S=some p→fin p.1 p.2→BH P T ops is rest S fin
 |[],rest,S,p,fin,h,hk=>by
  simp only[Hv,Option.some.injEq]at h;subst h;exact hk
 |i::is,o::r,S,p,fin,h,hk=>by
  simp only[Hv,jzd]at h;obtain⟨x,hx,h⟩:=h;split at h
  case isFalse=>cases h
  rename_i hok
  have hrec:Cu i o.dst S (fun S'=>BH P T ops is r S' fin) x:=⟨hok,Rq hc hA h hk⟩
  simp only[BH];split at hx
  ·rename_i e
   rw[if_pos e]
   exact jil hx hrec
  ·rename_i e
   rw[if_neg e]
   split at hx
   ·rename_i e2
    rw[if_pos e2]
    exact jeG hA hx hrec
   ·rename_i e2
    rw[if_neg e2]
    split at hx
    ·rename_i e3
     rw[if_pos e3]
     rw[jzd]at hx
     obtain⟨x0,hx0,hx⟩:=hx
     refine Uq hc hx0 ?_;unfold TS at hx;split at hx
     ·split at hx
      ·rename_i hh
       cases hx;exact⟨hh,hrec⟩
      ·cases hx
     ·cases hx;exact hrec
     ·cases hx
    ·rename_i e3
     rw[if_neg e3]
     exact Uq hc hx hrec
 |_::_,[],_,_,_,h,_=>by simp[Hv]at h
theorem LB(hc: ∀g aa r,cal g aa=some r→CallsF P g aa r)(hA:CalOk P calA){ops:List Oper}: ∀{segs:List Seg} {rest:List Oper} {st s:St} {K:St→Prop},
  Fm T cal sA calA ops segs rest st=some s→K s→ ∃segs',(∀pl lo,DT ops pl lo segs'=DT ops pl lo segs)∧DY P T ops segs' rest K st
 |[],_,st,s,K,h,hk=>by
  simp only[Fm,Option.some.injEq]at h;subst h;exact⟨[],fun _ _=>rfl,hk⟩
 | .one::r,o::rest,st,s,K,h,hk=>by
  simp only[Fm,jzd]at h;obtain⟨s1,h1,h2⟩:=h;obtain⟨segs',hs,hw⟩:=LB hc hA h2 hk;exact⟨.one::segs',fun pl lo=>by simp only[DT,hs],QE hc hA h1 hw⟩
 | .one::_,[],_,_,_,h,_=>by simp[Fm]at h
 | .any ts ds is::r,rest,st,s,K,h,hk=>by
  simp only[Fm,jzd]at h;obtain⟨p,h1,h2⟩:=h;obtain⟨segs',hs,hw⟩:=LB hc hA h2 hk;exact⟨.any (Rr st ts) ds is::segs',fun pl lo=>by simp only[DT,hs],Rq hc hA (fin:=fun rest' s=>DY P T ops segs' rest' K s) h1 hw⟩
theorem Mf{α:Type}(L:List (Nat×α)): ∀l,AW L (I4 L l)
 |[]=>trivial
 |(k,v)::r=>by
  unfold I4;split
  ·rename_i w h
   exact⟨h,Mf L r⟩
  ·exact Mf L r
theorem O6(l:List Nat)(s:St):(Hj l s).le s:=⟨NJ _ _,Mf _ _⟩
theorem jf1{l:List Nat}{f:St→Option (Exit×St)}{body:St→Bk→Prop}(hf: ∀st p Q,f st=some p→Q p.1 p.2→body st Q){n:Nat}{st:St}{p:Exit×St}{Q:Bk}(h:HF l f n (Hj l st)=some p)(hk:Q p.1 p.2):HN body st Q:=by
 refine⟨fun s m=>HF l f m s=some p,[],⟨Hj l st,n,O6 l st,h⟩,fun s m hI=> ?_⟩
 cases m with
 |zero=>cases hI
 |succ m=>
  simp only[HF,jzd]at hI;obtain⟨⟨e,q⟩,hq,hI⟩:=hI;refine hf s (e,q) _ hq ?_;cases e with
  |normal=>
   simp only[Jf]at hI;exact⟨Hj l q,m,O6 l q,hI,Nat.lt_succ_self m⟩
  |_=>
   simp only[Option.some.injEq]at hI;subst hI;exact hk
theorem K0(hc: ∀g aa r,cal g aa=some r→CallsF P g aa r)(hA:CalOk P calA){pln:HA}{l:List Nat}{N:Nat}: ∀(c:Code),Cq pln c=true→ ∀(st:St) (p:Exit×St) (Q:Bk),
  evC T cal sA calA pln l N c st=some p→Q p.1 p.2→Bl P T c st Q:=by
 intro c
 induction c with
 |skip=>
  intro _ st p Q h hk;simp only[evC,Option.some.injEq]at h;subst h;exact hk
 |region id ops draw=>
  intro hp st p Q h hk;simp only[evC]at h;unfold Bl JS;cases draw with
  |true=>
   simp only[if_true,jzd,Jf,Option.some.injEq]at h ⊢;obtain⟨x,hx,s,hs,rfl⟩:=h;simp only[Cq,Bool.not_true,Bool.false_or,hx]at hp;obtain⟨segs',he,hw⟩:=LB hc hA hs hk;refine AA x.1 segs' ?_ hw;simp only[Jy,he]at hp ⊢;exact hp
  |false=>
   simp only[Bool.false_eq_true,if_false,jzd,Jf,Option.some.injEq]at h ⊢;obtain⟨s,hs,rfl⟩:=h;exact Tv hc hA hs hk
 |seq a b iha ihb=>
  intro hp st p Q h hk;simp only[Cq,AR]at hp;simp only[evC,jzd]at h;obtain⟨⟨e,s⟩,h1,h2⟩:=h;refine iha hp.1 st (e,s) _ h1 ?_;cases e with
  |normal=>exact ihb hp.2 s p Q h2 hk
  |_=>
   simp only[Option.some.injEq]at h2;subst h2;exact hk
 |cond c x y ihx ihy=>
  intro hp st p Q h hk;simp only[Cq,AR]at hp;simp only[evC]at h
  show Ie (st.evB c) st (Bl P T x) (Bl P T y) Q
  split at h
  ·rename_i hb
   rw[hb]
   exact⟨fun _=>ihx hp.1 st p Q h hk,fun e=>by cases e⟩
  ·rename_i hb
   rw[hb]
   exact⟨fun e=>by(cases e),fun _=>ihy hp.2 st p Q h hk⟩
  ·cases h
 |block id c ih=>
  intro hp st p Q h hk;simp only[Cq]at hp;simp only[evC,jze]at h;obtain⟨⟨e,s⟩,h1,h2⟩:=h;refine ih hp st (e,s) _ h1 ?_;cases e with
  |exit j=>
   simp only at h2
   show if j=id then Q .normal s else Q (.exit j) s
   by_cases hj:j=id
   ·rw[if_pos hj]at h2 ⊢
    subst h2;exact hk
   ·rw[if_neg hj]at h2 ⊢
    subst h2;exact hk
  |_=>
   simp only at h2;subst h2;exact hk
 |loop c ih=>
  intro hp st p Q h hk;simp only[Cq]at hp;simp only[evC,Jf]at h;exact jf1 (fun st p Q h hk=>ih hp st p Q h hk) h hk
 |exit id=>
  intro _ st p Q h hk;simp only[evC,Option.some.injEq]at h;subst h;exact hk
 |ret=>
  intro _ st p Q h hk;simp only[evC,Option.some.injEq]at h;subst h;exact hk
 |scope c ih=>
  intro hp st p Q h hk;simp only[Cq]at hp;simp only[evC,jzd]at h;obtain⟨⟨e,s⟩,h1,h2⟩:=h;refine ih hp st (e,s) _ h1 ?_;cases e with
  |goto j=>cases h2
  |_=>
   simp only[Option.some.injEq]at h2;subst h2;exact hk
 |label j=>
  intro _ st p Q h hk;simp only[evC,Option.some.injEq]at h;subst h;exact hk
 |_=>
  intro _ st p Q h hk;simp only[evC]at h;cases h
theorem PZ{st:St}{pure:Bool}{c:C}{r:RC}(h:KB st pure c=some r):fitC st pure c r∧r.rows=[]:=by
 unfold KB at h;split at h
 ·cases h
 ·rename_i hp
  simp only[jze]at h;obtain⟨x,hx,rfl⟩:=h;refine⟨?_,rfl⟩;have:(pure=true→c.id? =none)∧st.cD c=some x:=⟨fun e=>by
   cases hi:c.id? with
   |none=>rfl
   |some i=>exact absurd ⟨e,by rw[hi];rfl⟩ hp,hx⟩
  cases c<;>exact this
theorem I8{α β:Type}{f:α→Option β}{r:α→β→Prop}{q:β→Prop}(hf: ∀a b,f a=some b→r a b∧q b): ∀{l:List α} {m:List β},l.mapM f=some m→fitL r l m∧ ∀b∈m,q b
 |[],m,h=>by
  simp only[List.mapM_nil,Option.pure_def,Option.some.injEq]at h;subst h;exact⟨trivial,by simp⟩
 |a::l,m,h=>by
  simp only[List.mapM_cons,Option.pure_def,Option.bind_eq_bind,jzd,Option.some.injEq]at h;obtain⟨b,hb,m',hm,rfl⟩:=h;obtain⟨h1,h2⟩:=hf a b hb;obtain⟨h3,h4⟩:=I8 hf hm;exact⟨⟨h1,h3⟩,fun x hx=>by
   rcases jzn.1 hx with rfl|hx
   ·exact h2
   ·exact h4 x hx⟩
theorem KX{st:St}{pure:Bool}{u:U}{r:RU}(h:EN st pure u=some r):fitU st pure u r∧r.rows=[]:=by
 unfold EN at h;cases u with
 |c x=>
  simp only[jze]at h;obtain⟨y,hy,rfl⟩:=h;exact PZ hy
 |agg cs=>
  simp only[jze]at h;obtain⟨y,hy,rfl⟩:=h;obtain⟨h1,h2⟩:=I8 (r:=fitC st pure) (q:=fun r=>r.rows=[]) (fun a b e=>PZ e) hy
  refine⟨h1,?_⟩
  show y.flatMap RC.rows=[]
  rw[List.flatMap_eq_nil_iff]
  exact h2
 |clo f cs=>cases h
theorem S5{st:St}{c:C}{r:RC}(h:I6 st c=some r):fitC st true c r∧r.rows.length=1:=by
 unfold I6 at h;split at h
 ·rename_i i n
  split at h
  ·rename_i sz cs hl
   split at h
   ·rename_i hlen
    cases h;exact⟨⟨rfl,hl,hlen⟩,rfl⟩
   ·cases h
  ·cases h
 ·cases h
theorem jkm{st:St}{v:V}{r:R}(h:NH st v=some r)(hl:r.rows.length≤1):fitV st (!r.rows.isEmpty) v r:=by
 have data: ∀{u:U} {x:RU},EN st false u=some x→fitV st (!(R.u x).rows.isEmpty) (.u u) (.u x):=fun h=>by
  obtain⟨h1,h2⟩:=KX h
  have:(R.u _).rows=[]:=h2
  rw[this]
  exact h1
 have datas: ∀{us:List U} {xs:List RU},us.mapM (EN st false)=some xs→fitV st (!(R.tup xs).rows.isEmpty) (.tup us) (.tup xs):=fun h=>by
  obtain⟨h1,h2⟩:=I8 (r:=fitU st false) (q:=fun r=>r.rows=[]) (fun a b e=>KX e) h
  have:(R.tup _).rows=[]:=List.flatMap_eq_nil_iff.2 h2
  rw[this]
  exact h1
 unfold NH at h;split at h
 ·rename_i x
  split at h
  ·simp only[jze]at h;obtain⟨y,hy,rfl⟩:=h;obtain⟨h1,h2⟩:=S5 hy;have h3:(R.u (RU.c y)).rows=y.rows:=rfl;rw[h3];have:(!y.rows.isEmpty)=true:=by
    cases hr:y.rows with
    |nil=>rw[hr]at h2;cases h2
    |cons a l=>rfl
   rw[this]
   exact h1
  ·simp only[jze]at h;obtain⟨y,hy,rfl⟩:=h;exact data hy
 ·simp only[jze]at h;obtain⟨y,hy,rfl⟩:=h;exact data hy
 ·rename_i x us
  split at h
  ·simp only[jzd,jze]at h;obtain⟨y,hy,xs,hxs,rfl⟩:=h;obtain⟨h1,h2⟩:=S5 hy;obtain⟨h3,h4⟩:=I8 (r:=fitU st true) (q:=fun r=>r.rows=[]) (fun a b e=>KX e) hxs
   have:(!(R.tup (RU.c y::xs)).rows.isEmpty)=true:=by
    have e:(R.tup (RU.c y::xs)).rows=y.rows++xs.flatMap RU.rows:=rfl
    rw[e]
    cases hr:y.rows with
    |nil=>rw[hr]at h2;cases h2
    |cons a l=>rfl
   rw[this]
   exact⟨h1,h3⟩
  ·simp only[jze]at h;obtain⟨y,hy,rfl⟩:=h;exact datas hy
 ·simp only[jze]at h;obtain⟨y,hy,rfl⟩:=h;exact datas hy
 ·cases h
end
end Go.Va
