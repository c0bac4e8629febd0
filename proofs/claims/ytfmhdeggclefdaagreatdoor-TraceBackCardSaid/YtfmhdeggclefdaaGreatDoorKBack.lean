/- TraceBack holds: for every string, deduction and names that can be read the law returns true, and each argument reads behind the call as it read before; the listed variables are tied to the program's text. -/
import Derived.Test.YtfmhdeggclefdaaGreatDoorKax
import Derived.Test.YtfmhdeggclefdaaGreatDoorKbp
import Derived.Test.YtfmhdeggclefdaaGreatDoorCards
import Derived.SevenTiedAt
import Derived.Test.YtfmhdeggclefdaaGreatDoorKTbg
import Derived.Test.YtfmhdeggclefdaaGreatDoorKbr
import Derived.WalkKit
set_option linter.all false
set_option maxRecDepth 100000
set_option maxHeartbeats 4000000
namespace Go.Proofs.YtfmhdeggclefdaaGreatDoor
open Go.Va Go.ChangeShapes Go.WideShapes Go.ChangeAt Go.RowKit
theorem jjG (u : TypeId) (h : Tryz.prog.typeName? 3 u = some "*errors.errorString") : u = 389 := by
 have st : "*" ++ "errors.errorString" = "*errors.errorString" := by decide
 exact typeName_ptr_named (nm := "errors.errorString") (by rw [st]; kernel_rfl) (by kernel_rfl) (by decide) u (by rw [st]; exact h)
theorem jfp {W : World} {k : Nat} {n : String} {text : List UInt8} {r : List (String × DataW Unit)} (h : laidMet Tryz.prog ((n, .iface "*errors.errorString" (.ptr (.agg [.lit (.string text)]))) :: r) W) (hg : Tryz.prog.globalNamed n = some k) (ht : (Tryz.prog.globals[k]?).map (·.type) = some 81) :
  R9 k W∧k<W.heap.size:=by
 obtain⟨a0,s0,hv0,-,-,-⟩:=laid_sentinel h hg ht Tryz.underlying81 jjG Tryz.underlying389 Tryz.underlying391 rfl rfl Tryz.underlying9 (by kernel_rfl) (by kernel_rfl)
 have h0:W.cell? ⟨k,0,none⟩=some (.iface 389 (.pointer (some a0))):=by have:=World.var?_cell hg hv0 0;simpa using this
 exact⟨⟨_,h0,.inr ⟨_,_,rfl⟩⟩,World.block_lt_of_cell? _ _ h0⟩
theorem Rb{W:World}(hs:W.ShapedOpen Tryz.prog)(hl:laidMetH Tryz.prog Rows.traceBackRow.laid W):ZOk W Z0 Z0:=by
 obtain⟨m,hm⟩:=cell_of_shapedOpen_int (g:=0) (t:=3) (zero:= #[.int .i64 0]) (k:= .i64) hs (of_decide_eq_true (by kernel_rfl)) (by kernel_rfl) rfl (by kernel_rfl) (by kernel_rfl) (by kernel_rfl)
 have hp : Tryz.prog.globalNamed "internal/strconv.uint64pow10" = some 1 := by kernel_rfl
 rw[MakeChecks.laidMetH_plain _ _ _ (by kernel_rfl)]at hl
 have h2:=laidMet.tail (laidMet.tail hl);have ht : Lib.TabIs Tryz.prog W "internal/strconv.uint64pow10" .u64 Lib.pow10Tab := Lib.tabIs_of_head (g := 1) (t := 311) (e := 180) (n := 20) (by kernel_rfl) (by kernel_rfl) (by kernel_rfl) (by kernel_rfl) (by kernel_rfl) (by kernel_rfl) h2
 have h4:=laidMet.tail (laidMet.tail h2);obtain⟨r1,r2⟩:=jfp (k:=5) h4 (by kernel_rfl) (by kernel_rfl)
 obtain⟨s1,s2⟩:=jfp (k:=4) (laidMet.tail h4) (by kernel_rfl) (by kernel_rfl)
 unfold Lib.TabIs World.var? at ht;rw[hp]at ht;simp only[Option.bind_some]at ht;split at ht
 ·rename_i cs t f hh
  cases ht;refine⟨fun _ h=>h.elim,fun k hk=>⟨?_,fun ad _ h=>h.elim⟩,⟨m,hm⟩,⟨t,f,hh⟩,s1,r1⟩
  simp only[GB,List.mem_cons,List.not_mem_nil,or_false]at hk;rcases hk with rfl|rfl|rfl|rfl
  ·exact World.block_lt_of_cell? _ _ hm
  ·exact(Array.getElem?_eq_some_iff.1 hh).1
  ·exact s2
  ·exact r2
 ·cases ht
theorem jg8(os:Os)(started:os.Started)(H:Type)(enc:TypeId×Value→H):
  ReturnsInHanded {} Tryz.checked os 3 .any (fun w args=>(Rows.traceBackSpec.pre enc Tryz.prog Tryz.f3 [] false w args∧laidMetH Tryz.prog Rows.traceBackRow.laid w)∧sizedMet enc Tryz.prog Tryz.f3 (OpenSpec.ofChange Rows.traceBackSpec) false w args) (Rows.traceBackSpec.post enc Tryz.prog Tryz.f3 false true false false):=by
 refine Z8 os started H enc (by kernel_rfl) Tryz.func3 rfl (by kernel_rfl) (fun t ht=> ?_) (fun H ds hl=> ?_) (fun W hs h=>Rb hs h)
  (ChangeSpec.witness_shaped (enc:=enc) (C:=Tryz.checked) (os:=os) (X:=fun w _=>laidMetH Tryz.prog Rows.traceBackRow.laid w) false (World.laidAll Tryz.prog os Rows.traceBackRow.laid) #[.string ⟨#[]⟩,.agg #[.slice none 0 0,.slice none 0 0],.slice none 0 0] 8 (World.laidAll_os _ _ _)
   (World.shaped_of_ZipB (by kernel_rfl) (by kernel_rfl)) (by kernel_rfl) (by kernel_rfl) (by kernel_rfl)
   (by rw[MakeChecks.laidMetH_plain _ _ _ (by kernel_rfl)];exact laidMet_laidAll _ (by kernel_rfl) (by kernel_rfl))) ?_
 ·rw[Tryz.params3]at ht
  have:t=9∨t=25∨t=26:=by simpa using ht
  rcases this with rfl|rfl|rfl
  ·exact⟨by kernel_rfl,of_decide_eq_true (by kernel_rfl)⟩
  ·exact⟨by kernel_rfl,of_decide_eq_true (by kernel_rfl)⟩
  ·exact⟨by kernel_rfl,of_decide_eq_true (by kernel_rfl)⟩
 ·rw[Tryz.params3]at hl
  match ds,hl with
  |[d1,d2,d3],_=>rfl
 ·intro W args ds ps base hg hval hA;have hp0:Tryz.f3.params[0]? =some 9:=by rw[Tryz.params3];rfl
  have hp2:Tryz.f3.params[2]? =some 26:=by rw[Tryz.params3];rfl
  rw[Tryz.params3]at hA
  obtain⟨v0,vs0,d0,ds0,p0,q0,hargs,rfl,rfl,h0,r0⟩:=trodAll_cons hA
  obtain⟨v1,vs1,d1,ds1,p1,q1,rfl,rfl,rfl,h1,r1⟩:=trodAll_cons r0
  obtain⟨v2,vs2,d2,ds2,p2,q2,rfl,rfl,rfl,h2,r2⟩:=trodAll_cons r1
  obtain⟨rfl,rfl,rfl⟩:=trodAll_nil r2
  obtain rfl:args= #[v0,v1,v2]:=by cases args;simp_all
  obtain⟨s,e0⟩:=jms (hval 0 _ v0 hp0 rfl) h0
  obtain⟨xs,gs,hin,e1⟩:=Qq h1
  obtain⟨ns,e2⟩:=Xg (hval 2 _ v2 hp2 rfl) h2
  refine jmy (vals:=[v0,v1,v2]) (jgS s xs gs ns hin) hg ⟨rfl,fun j a v ha hv=> ?_⟩
  match j,ha,hv with
  |0,ha,hv=>cases ha;cases hv;exact e0
  |1,ha,hv=>cases ha;cases hv;exact e1
  |2,ha,hv=>cases ha;cases hv;exact e2
theorem jgb:Rows.TraceBackSaid:=
 OpenClaim.holds_of_wide 3 Tryz.f3 rfl rfl rfl rfl rfl rfl rfl ⟨rfl,rfl,rfl,rfl,rfl⟩ rfl rfl rfl rfl rfl traceBack_fn Tryz.func3 jif
  jj3 jjo
  (fun os started H enc _=>jg8 os started H enc)
theorem back_holds:Rows.TraceBackCardSaid:=
 Claim7.holds_tied_plain_at .later [] [.data, .data, .data, .data, .sentinel, .sentinel, .pinned] true (true, "26ed4a33b8a17b4d470ba066ee0b978d68d51153f66aa7da2295726b1f3969e1") true jgb (fun _ h => by cases h) jmV (fun _ h => by cases h) traceBack_row_tie rfl ⟨rfl, rfl⟩ jhA rfl
  (fun f fn hf hfn=>by
   obtain rfl:f=3:=Option.some.inj (traceBack_fn.symm.trans hf)|>.symm
   obtain rfl:fn=Tryz.f3:=(Option.some.inj (Tryz.func3.symm.trans hfn)).symm;exact⟨jlP,fun j t ht=>by
    rw[Tryz.params3]at ht
    have hm:t∈[9,25,26]:=by simpa using Array.mem_of_getElem? ht
    exact(show Tryz.pinned.checked.prog.wantsStandIn t=false by simpa using List.all_eq_true.1 jky t hm)⟩)
  jlS
end Go.Proofs.YtfmhdeggclefdaaGreatDoor
