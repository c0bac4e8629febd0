/- a part of the proof -/
import Derived.Test.YtlgoebgnbkhmmaaGreatDoorZah
set_option linter.all false
namespace Go.Va
open Go.RowKit
def C.men(d:Nat)(c:C):Bool:=c.id? ==some d
def U.men(d:Nat):U→Bool
 | .c x=>x.men d
 | .agg cs=>cs.any (C.men d)
 | .clo _ cs=>cs.any (C.men d)
def V.men(d:Nat):V→Bool
 | .u x=>x.men d
 | .tup us=>us.any (U.men d)
 | .tr _ _=>false
def Blk.men(d:Nat):Blk→Bool
 | .row _ _ _=>false
 | .box cs=>cs.any (C.men d)
 | .fbox _ cs=>cs.any (C.men d)
 | .mp _=>false
 | .gh cs=>cs.any (C.men d)
theorem C.on_men{d:Nat}{c:C}(h:c.men d=false):c.on (Bm d)=c:=by
 unfold C.on Bm;unfold C.men at h;split
 ·simp_all[C.id?,if_neg]
 ·simp_all[C.id?,if_neg]
 ·simp_all[C.id?,if_neg]
 ·rfl
theorem GV{d:Nat}: ∀{cs:List C},cs.any (C.men d)=false→cs.map (C.on (Bm d))=cs
 |[],_=>rfl
 |c::r,h=>by
  simp only[List.any_cons,Bool.or_eq_false_iff]at h;rw[List.map_cons,C.on_men h.1,GV h.2]
theorem U.on_men{d:Nat}: ∀{u:U},u.men d=false→u.on (Bm d)=u
 | .c x,h=>congrArg U.c (C.on_men h)
 | .agg cs,h=>congrArg U.agg (GV h)
 | .clo f cs,h=>congrArg (U.clo f) (GV h)
theorem Us{d:Nat}: ∀{us:List U},us.any (U.men d)=false→us.map (U.on (Bm d))=us
 |[],_=>rfl
 |c::r,h=>by
  simp only[List.any_cons,Bool.or_eq_false_iff]at h;rw[List.map_cons,U.on_men h.1,Us h.2]
theorem V.on_men{d:Nat}: ∀{v:V},v.men d=false→v.on (Bm d)=v
 | .u x,h=>congrArg V.u (U.on_men h)
 | .tup us,h=>congrArg V.tup (Us h)
 | .tr _ _,_=>rfl
theorem Blk.on_men{d:Nat}: ∀{b:Blk},b.men d=false→b.on (Bm d)=b
 | .row _ _ _,_=>rfl
 | .box cs,h=>congrArg Blk.box (GV h)
 | .fbox f cs,h=>congrArg (Blk.fbox f) (GV h)
 | .mp _,_=>rfl
 | .gh cs,h=>congrArg Blk.gh (GV h)
structure FS.Clean (F:FS) (d:Nat):Prop where
 t: ∀t v,F.t t=some v→v.men d=false
 h: ∀k b,F.h k=some b→k≠d∧b.men d=false
theorem HK{α:Type}(k j:Nat)(l:List (Nat×α)):lk j (rm k l)=if j=k then none else lk j l:=by
 by_cases h:j=k
 ·subst h;rw[Ha,if_pos rfl]
 ·rw[BR h,if_neg h]
theorem Iy{α:Type}(k j:Nat)(v:α)(l:List (Nat×α)):lk j ((k,v)::l)=if k=j then some v else lk j l:=rfl
theorem C8(s:St)(d:Option Nat)(v:V):(s.put d v).fs=s.fs.upd ⟨d,.val v⟩:=by
 refine FS.ext' (fun t=> ?_) fun k=> ?_
 ·cases d with
  |none=>rfl
  |some d=>
   simp_all[St.fs,St.put,FS.upd,Iy,HK,Option.some.injEq,Eff.v,Ne.symm]
 ·cases d<;>rfl
theorem NK{s:St}{d:Nat}(h:s.fs.Clean d):(s.purge d).fs=s.fs:=by
 refine FS.ext' (fun t=> ?_) fun k=> ?_
 ·show lk t (s.on (Bm d)).t=lk t s.t
  simp only[St.on,BN];cases hl:lk t s.t with
  |none=>rfl
  |some v=>rw[Option.map_some,V.on_men (h.t t v hl)]
 ·show lk k (rm d (s.on (Bm d)).h)=lk k s.h
  simp only[St.on,HK,BN];cases hl:lk k s.h with
  |none=>simp
  |some b=>
   obtain⟨h1,h2⟩:=h.h k b hl
   rw[if_neg h1,Option.map_some,Blk.on_men h2]
theorem F4(s:St)(k:Nat)(b:Blk):(s.blk k b).fs=⟨s.fs.t,fun j=>if k=j then some b else s.fs.h j⟩:=by
 refine FS.ext' (fun t=>rfl) fun j=> ?_
 simp_all[St.fs,St.blk,Iy,HK,Ne.symm]
theorem JQ(s:St)(k:Nat):(s.drop k).fs=⟨s.fs.t,fun j=>if j=k then none else s.fs.h j⟩:=by
 refine FS.ext' (fun t=>rfl) fun j=> ?_
 simp only[St.fs,St.drop,HK]
def Eff.Free(d:Option Nat)(F:FS):Eff→Prop
 | .new b _=>F.Clean (d.getD 0)∧b.men (d.getD 0)=false
 | .app _ b _=>F.Clean (d.getD 0)∧b.men (d.getD 0)=false
 | .dat _=>F.Clean (d.getD 0)
 |_=>True
theorem HT{s:St}{d:Option Nat}{x:Eff}(h:x.Free d s.fs):(s.eff d x).fs=s.fs.upd ⟨d,x⟩:=by
 cases x with
 |val v=>exact C8 s d v
 |dat x=>exact C8 s d _
 |new b v=>
  obtain⟨h1,h2⟩:=h
  show((s.new (d.getD 0) b).put d v).fs=_
  rw[C8]
  unfold St.new;rw[Blk.on_men h2,FS.upd,F4,NK h1];refine FS.ext' (fun t=>rfl) fun k=> ?_
  simp only[FS.upd,Eff.b,Option.getD_none];split<;>rfl
 |put i b=>
  show((s.blk i b).put d (.tup [])).fs=_
  rw[C8,FS.upd,F4]
  refine FS.ext' (fun t=>rfl) fun k=> ?_
  simp only[FS.upd,Eff.b,Option.getD_none];split<;>rfl
 |app i b v=>
  obtain⟨h1,h2⟩:=h
  have hc:(s.drop i).fs.Clean (d.getD 0):=by
   rw[JQ]
   refine⟨h1.t,fun k b hb=> ?_⟩
   simp only at hb;split at hb
   ·cases hb
   ·exact h1.h k b hb
  show(((s.drop i).new (d.getD 0) b).put d v).fs=_
  rw[C8]
  unfold St.new;rw[Blk.on_men h2,FS.upd,F4,NK hc,JQ];refine FS.ext' (fun t=>rfl) fun k=> ?_
  simp only[FS.upd,Eff.b,Option.getD_none]
  grind
section
variable {P:Program} {T:AH}
def EH(P:Program)(T:AH)(o:Oper)(E:St)(x:Eff):Prop:=
 ∀s:St,E.Sub s→x.Free o.dst s.fs→ ∀K:St→Prop,(∀s',s'.fs=s.fs.upd ⟨o.dst,x⟩→K s')→wpOp P T o s (Frz K)
theorem jaV{o:Oper}{E:St}{x:Eff}(h:effOp T o E=some x):EH P T o E x:=by
 intro s hs hf K hK;have h1:=jkv (Sub.effOp hs T o x h)
 grind[AI,DH,Frz,CR,Frz.of,HT,wpOp,effOp]
theorem C.on_other{d:Nat}{g:Nat→C→C}(hg: ∀i c,i≠d→g i c=c){c:C}(h:c.men d=false):c.on g=c:=by
 unfold C.on;unfold C.men at h;split
 ·grind[C.id?]
 ·grind[C.id?]
 ·grind[C.id?]
 ·rfl
theorem Hy{d:Nat}{g:Nat→C→C}(hg: ∀i c,i≠d→g i c=c): ∀{cs:List C},cs.any (C.men d)=false→cs.map (C.on g)=cs
 |[],_=>rfl
 |c::r,h=>by
  simp only[List.any_cons,Bool.or_eq_false_iff]at h;rw[List.map_cons,C.on_other hg h.1,Hy hg h.2]
theorem U.on_other{d:Nat}{g:Nat→C→C}(hg: ∀i c,i≠d→g i c=c): ∀{u:U},u.men d=false→u.on g=u
 | .c x,h=>congrArg U.c (C.on_other hg h)
 | .agg cs,h=>congrArg U.agg (Hy hg h)
 | .clo f cs,h=>congrArg (U.clo f) (Hy hg h)
theorem Ss{d:Nat}{g:Nat→C→C}(hg: ∀i c,i≠d→g i c=c): ∀{us:List U},us.any (U.men d)=false→us.map (U.on g)=us
 |[],_=>rfl
 |c::r,h=>by
  simp only[List.any_cons,Bool.or_eq_false_iff]at h;rw[List.map_cons,U.on_other hg h.1,Ss hg h.2]
theorem V.on_other{d:Nat}{g:Nat→C→C}(hg: ∀i c,i≠d→g i c=c): ∀{v:V},v.men d=false→v.on g=v
 | .u x,h=>congrArg V.u (U.on_other hg h)
 | .tup us,h=>congrArg V.tup (Ss hg h)
 | .tr _ _,_=>rfl
theorem Blk.on_other{d:Nat}{g:Nat→C→C}(hg: ∀i c,i≠d→g i c=c): ∀{b:Blk},b.men d=false→b.on g=b
 | .row _ _ _,_=>rfl
 | .box cs,h=>congrArg Blk.box (Hy hg h)
 | .fbox f cs,h=>congrArg (Blk.fbox f) (Hy hg h)
 | .mp _,_=>rfl
 | .gh cs,h=>congrArg Blk.gh (Hy hg h)
theorem UL{s s1:St}{d sz len:Nat}{ds:List D}(hl:ds.length=len*sz)(hc:s.fs.Clean d)(h1:s1.fs=s.fs.upd ⟨some d,.new (.row sz ds true) (vC (.sl d 0 len))⟩):
  (s1.freeze [d]).fs=s.fs.upd ⟨some d,.dat (.slice len ds)⟩:=by
 have ht: ∀t,lk t s1.t=if d=t then some (vC (.sl d 0 len)) else lk t s.t:=fun t=>by
  have:=congrArg (fun F=>F.t t) h1
  simpa [St.fs,FS.upd,Eff.v]using this
 have hh: ∀k,lk k s1.h=if d=k then some (.row sz ds true) else lk k s.h:=fun k=>by
  have:=congrArg (fun F=>F.h k) h1
  simp only[St.fs,FS.upd,Eff.b,Option.getD_some]at this
  grind
 have hd:lk d s1.h=some (.row sz ds true):=by rw[hh,if_pos rfl]
 have hg: ∀i c,i≠d→Du s1.h ([d].contains ·) i c=c:=(by simp_all[Du,if_neg])
 have hdd:toD ([d].contains ·) s1.h 4 (.sl d 0 len)=some (.slice len ds):=by
  unfold toD;rw[if_pos (by simp),hd]
  simp only;rw[if_pos (by grind)]
  unfold AP
  grind
 refine FS.ext' (fun t=> ?_) fun k=> ?_
 ·show lk t (s1.on (Du s1.h ([d].contains ·))).t=_
  simp only[St.on,BN,ht,FS.upd,Eff.v,Option.some.injEq];by_cases e:d=t
  ·rw[if_pos e,if_pos e,Option.map_some]
   show some (V.u (U.c (Du s1.h ([d].contains ·) d (.sl d 0 len))))=_
   unfold Du;rw[if_pos (by simp),hdd]
   rfl
  ·rw[if_neg e,if_neg e]
   cases hl2:lk t s.t with
   |none=>simp[St.fs,hl2]
   |some v=>
    rw[Option.map_some,V.on_other hg (hc.t t v hl2)]
    exact hl2.symm
 ·show lk k (Ds ([d].contains ·) (s1.on (Du s1.h ([d].contains ·))).h)=_
  rw[FZ]
  simp only[St.on,BN,hh,FS.upd,Eff.b,Option.getD_none];by_cases e:k=d
  ·rw[if_pos (by simpa using e)]
   cases hl2:s.fs.h k with
   |none=>rfl
   |some b=>exact absurd e (hc.h k b hl2).1
  ·rw[if_neg (by simpa using e),if_neg (fun h=>e h.symm)]
   cases hl2:lk k s.h with
   |none=>simp[St.fs,hl2]
   |some b=>
    rw[Option.map_some,Blk.on_other hg (hc.h k b hl2).2]
    exact hl2.symm
theorem jiL{s:St}{d sz len:Nat}{ds:List D}(hl:ds.length=len*sz)(hc:s.fs.Clean d):
  (((s.new d (.row sz ds true)).put (some d) (vC (.sl d 0 len))).freeze [d]).fs=s.fs.upd ⟨some d,.dat (.slice len ds)⟩:=
 UL hl hc (HT (d:=some d) (x:= .new (.row sz ds true) (vC (.sl d 0 len))) ⟨hc,rfl⟩)
theorem N5{o:Oper}{E:St}{x:Eff}(h:GG T o E=some x):EH P T o E x:=by
 intro s hs hf K hK;unfold GG at h;split at h
 case h_2=>cases h
 case h_1 t len parts ho=>
  simp only[jzd]at h;obtain⟨d,hd,i,hi,e,he,j,hj,l,hl,h⟩:=h;split at h
  case isFalse=>cases h
  case isTrue hbig=>
   simp only[jzd]at h;obtain⟨cs,hcs,h⟩:=h;split at h
   ·cases h
   ·rename_i hnp
    split at h
    case isFalse=>cases h
    case isTrue hno=>
     simp only[jzd]at h;obtain⟨ds,hds,h⟩:=h;split at h
     case isFalse=>cases h
     case isTrue hlen=>
      cases h;have hl':=Sub.evUs hs _ _ hl
      have hds':cs.mapM (toD (fun _=>false) s.h 4)=some ds:=Sub.mapD hs _ _ _ _ hds
      have hb:effBsl d j len s.h l=some (.new (.row j.size ds true) (vC (.sl d 0 len))):=by
       unfold effBsl;rw[if_pos hbig,hcs,Option.bind_some,if_neg hnp,if_pos hno,hds'];rfl
      have hst:=OW hb;have hstep:DH T o s=some (s.eff (some d) (.new (.row j.size ds true) (vC (.sl d 0 len)))):=by
       unfold DH;rw[ho];simp only[hi,he,hj,hl',Option.bind_some,hd];exact hst
      have h2:AI (DH T o s) (Frz K):=by
       rw[hstep,CR]
       refine⟨[[d]],hK _ ?_⟩
       rw[hd]
       rw[hd]at hf
       exact jiL hlen hf
      unfold wpOp;rw[ho];exact h2
def CL(P:Program)(T:AH)(ops:List Oper)(o:Oper)(E:St)(x:Eff):Prop:=
 match o.guard with
 |none=>EH P T o E x
 |some (j,want)=>
  match (ops[j]?).bind (·.dst)with
  |some d=>(∃b,lk d E.t=some (vB b)∧((b=want∧EH P T o E x)∨(b= !want∧x= .val (.tup []))))∨(lk d E.t=some (.tup [])∧x= .val (.tup []))
  |none=>False
theorem Oq{s:St}{d:Nat}{v:V}(h:lk d s.t=some v):(s.put (some d) v).fs=s.fs:=by
 rw[C8]
 refine FS.ext' (fun t=> ?_) fun k=>rfl
 simp only[FS.upd,Option.some.injEq,Eff.v];split
 ·rename_i he;subst he;exact h.symm
 ·rfl
theorem Sub.same{E s s':St}(h:E.Sub s)(he:s'.fs=s.fs):E.Sub s':=by
 have:=NA he.symm
 exact⟨fun k x hx=>this.t k x (h.t k x hx),fun k x hx=>this.h k x (h.h k x hx)⟩
theorem jcS{ops:List Oper}{o:Oper}{E:St}{x:Eff}(h:CL P T ops o E x){s:St}(hs:E.Sub s)(hf:x.Free o.dst s.fs){K:St→Prop}
  (hK: ∀s',s'.fs=s.fs.upd ⟨o.dst,x⟩→K s'):Ca P T ops o s (Frz K):=by
 unfold CL at h;unfold Ca;split at h
 ·rename_i hg;rw[hg];exact h s hs hf K hK
 ·rename_i j want hg
  rw[hg]
  dsimp only
  split at h
  ·rename_i d hd
   rw[hd]
   dsimp only
   rcases h with⟨b,h1,h2⟩|⟨h1,h2⟩
   ·have hl:=hs.t d _ h1;rw[hl]
    show EW d want (some (.u (.c (.d (.bool b))))) s (wpOp P T o) (Gr o.dst) (Frz K)
    rw[PP]
    refine⟨fun hb=> ?_,fun hb=> ?_⟩
    ·rcases h2 with⟨_,h2⟩|⟨h2,_⟩
     ·have he:(s.put (some d) (vB want)).fs=s.fs:=Oq (hb ▸ hl)
      exact h2 _ (Sub.same hs he) (he ▸ hf) K (by grind)
     grind
    ·rcases h2 with⟨h2,_⟩|⟨_,h2⟩
     ·grind
     ·have he:(s.put (some d) (vB !want)).fs=s.fs:=Oq (hb ▸ hl)
      refine Frz.of (hK _ ?_);rw[C8,he,h2]
   ·have hl:=hs.t d _ h1;rw[hl,Rm];exact Frz.of (by grind[C8])
  ·exact h.elim
end
theorem Uo{ok ok':Nat→Bool}(ho: ∀i,ok i=true→ok' i=true)(h:List (Nat×Blk))(k i off n:Nat):Mo (toD ok h k (.sl i off n)) (toD ok' h k (.sl i off n)):=fun y hy=>by
 have he: ∀ok:Nat→Bool,toD ok h k (.sl i off n)=if ok i then (match lk i h with
  |some (.row sz cs _)=>if (off+n)*sz≤cs.length then some (.slice n (AP (off*sz) (n*sz) cs)) else none
  |_=>none) else none:=fun ok=>by cases k<;>rfl
 grind
theorem TP{ok ok':Nat→Bool}(ho: ∀i,ok i=true→ok' i=true)(h:List (Nat×Blk)): ∀(k:Nat) (c:C),Mo (toD ok h k c) (toD ok' h k c)
 |0,.d x=>Mo.refl _
 |k+1,.d x=>Mo.refl _
 |0,.nl=>Mo.refl _
 |k+1,.nl=>Mo.refl _
 |0,.bad=>Mo.refl _
 |k+1,.bad=>Mo.refl _
 |0,.mp q i=>Mo.refl _
 |k+1,.mp q i=>Mo.refl _
 |0,.sl i off n=>Uo ho h 0 i off n
 |k+1,.sl i off n=>(by grind[Uo])
 |0,.ptr i off=>fun y hy=>by
  simp_all[toD,if_pos,if_neg]
 |k+1,.ptr i off=>fun y hy=>by
  have hm: ∀l:List C,Mo (l.mapM (toD ok h k)) (l.mapM (toD ok' h k)):=fun l=>by
   induction l with
   |nil=>simpa using Mo.refl _
   |cons c r ih=>
    rw[List.mapM_cons,List.mapM_cons]
    exact(TP ho h k c).bind fun _=>ih.bind fun _=>Mo.refl _
  unfold toD at hy ⊢;by_cases h1:ok i=true
  ·rw[if_pos h1]at hy
   rw[if_pos (ho i h1)]
   split at hy
   ·exact hy
   ·exact(hm _).map _ _ hy
   ·by_cases h0:off=0
    ·rw[if_pos h0]at hy ⊢;exact(hm _).map _ _ hy
    grind
   ·cases hy
   ·cases hy
   ·cases hy
  grind
theorem Mo.trans{α:Type}{a b c:Option α}(h:Mo a b)(h':Mo b c):Mo a c:=fun x hx=>h' x (h x hx)
theorem Mo.mapM{α β:Type}{f g:α→Option β}(h: ∀x,Mo (f x) (g x)): ∀l:List α,Mo (l.mapM f) (l.mapM g)
 |[]=>by simpa using Mo.refl _
 |c::r=>by
  rw[List.mapM_cons,List.mapM_cons]
  exact(h c).bind fun _=>(Mo.mapM h r).bind fun _=>Mo.refl _
theorem Mz{E s:St}(hs:E.Sub s): ∀(k:Nat) (cs:List C) (i:Nat),i∈DZ E.h k cs→i∈DZ s.h k cs
 |0,_,_,h=>by cases h
 |k+1,cs,i,h=>by
  unfold DZ at h ⊢;rw[List.mem_flatMap]at h ⊢;obtain⟨c,hc,hi⟩:=h;refine⟨c,hc,?_⟩;split at hi
  ·cases hi
  ·rename_i j hj
   rcases jzn.1 hi with rfl|hi
   ·simp
   ·refine List.mem_cons_of_mem _ ?_;split at hi
    ·rename_i bs hb
     rw[hs.h j _ hb]
     exact Mz hs k bs i hi
    ·rename_i f bs hb
     rw[hs.h j _ hb]
     exact Mz hs k bs i hi
    ·cases hi
theorem Ly{E s:St}(hs:E.Sub s){ids ids':List Nat}(hi: ∀i,i∈ids→i∈ids')(u:U):Mo (U.toA ids E.h u) (U.toA ids' s.h u):=by
 have hc: ∀c:C,Mo (toD (ids.contains ·) E.h 4 c) (toD (ids'.contains ·) s.h 4 c):=fun c=>
  (Sub.toD hs _ 4 c).trans (by grind[TP])
 cases u with
 |c x=>exact(hc x).map _
 |agg cs=>exact(Mo.mapM hc cs).map _
 |clo f cs=>exact(Mo.mapM hc cs).map _
def FY(us:List U):Bool:=GD (us.flatMap U.all)
def Ec(d:Option Nat)(res:R):Eff:=match res.rows with|[]=> .val (res.imp (d.getD 0))|b::_=> .new b (res.imp (d.getD 0))
theorem Ui{P:Program}{T:AH}{dst:Option Nat}{E:St}{g:FuncId}{caps:List D}{us:List U}{as:List A}{res:R}
  (has:E.argsW (E.reachU us) us caps=some as) (hc:CallsF P g as res) (hid:res.flat=true∨FY us=true) {s:St} (hs:E.Sub s) (hfree:(Ec dst res).Free dst s.fs) {K:St→Prop}
  (hK: ∀s',s'.fs=s.fs.upd ⟨dst,Ec dst res⟩→K s'):DM P dst s (Frz K) g caps us:=by
 left
 have hargs:s.argsW (s.reachU us) us caps=some as:=by
  unfold St.argsW at has ⊢;exact(Mo.mapM (Ly hs (Mz hs 5 _)) us).map _ _ has
 rw[hargs,CR,jfi]
 refine⟨res,hc,?_⟩
 unfold Jc;refine Frz.of (hK _ ?_);have hb:s.back dst (s.reachU us) res=s.eff dst (Ec dst res):=by
  unfold St.back;have h1:(if res.flat then s else s.freeze (s.reachU us))=s:=by
   split
   ·rfl
   ·rename_i hn
    rcases hid with h|h
    ·exact absurd h hn
    ·unfold St.reachU;rw[RZ _ _ _ h];rfl
  dsimp only
  rw[h1]
  unfold Ec;cases res.rows<;>rfl
 grind[HT]
theorem jec{P:Program}{T:AH}{o:Oper}{E:St}{f:Operand}{args:Array Operand}{ts:Array TypeId}{g:FuncId}{caps:List D}{us:List U}{as:List A}{res:R}
  (ho:o.op= .call { callee:= .value f,args:=args,argTypes:=ts }) (hf:E.evU f=some (.c (.d (.fn g caps)))) (hus:args.toList.mapM E.evU=some us)
  (has:E.argsW (E.reachU us) us caps=some as) (hc:CallsF P g as res) (hid:res.flat=true∨FY us=true):
  EH P T o E (Ec o.dst res):=by
 intro s hs hfree K hK;unfold wpOp;rw[ho]
 dsimp only
 rw[Sub.evU hs f _ hf,CR,KV,Mo.mapM (Sub.evU hs) _ _ hus,CR]
 exact Ui (T:=T) has hc hid hs hfree hK
theorem jee{P:Program}{T:AH}{o:Oper}{E:St}{f:Operand}{args:Array Operand}{ts:Array TypeId}{g:FuncId}{cs:List C}{us:List U}{as:List A}{res:R}
  (ho:o.op= .call { callee:= .value f,args:=args,argTypes:=ts }) (hf:E.evU f=some (.clo g cs)) (hus:args.toList.mapM E.evU=some us)
  (has:E.argsW (E.reachU (us++cs.map .c)) (us++cs.map .c) []=some as) (hc:CallsF P g as res) (hid:res.flat=true∨FY (us++cs.map .c)=true):
  EH P T o E (Ec o.dst res):=by
 intro s hs hfree K hK;unfold wpOp;rw[ho]
 dsimp only
 rw[Sub.evU hs f _ hf,CR,Oz,Mo.mapM (Sub.evU hs) _ _ hus,CR]
 exact Ui (T:=T) has hc hid hs hfree hK
end Go.Va
