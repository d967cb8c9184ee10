-- Merged and trimmed by this session's program wip/tools/trim.py.
import Derived.Test.YthkdfojmhloofaaProg
import Derived.Below
import Derived.Deep.Draws
import Derived.Deep.AppendLies
import Derived.Maps.AppendAt
import Derived.OwnWalk
import Derived.Laws.BytesArg
import Derived.Laws.MakeOwn
import Derived.Laws.OwnMore
import Derived.Deep.OwnRows
import Derived.Tactics
import Derived.Lib.ConvBytes
import Derived.Laws.Slices
import Derived.WalkKit
import Derived.KernelRfl
import Derived.RowKit3
import Derived.Deep.LoopGhost
import Derived.Deep.QuietTactic
import Derived.BigQuiet
import Derived.WideLaws
import Derived.Deep.DeepCutAuto
import Derived.Deep.CutBlock
import Derived.Deep.RegionHeld3
import Derived.Laws.Rows
import Derived.Lib.AppendStr
import Derived.ArgAppend
import Derived.Laws.IdiomCopy
import Derived.OrdersHeld
import Derived.Laws.BitsLemmas
import Derived.RowKit
import Derived.Deep.RegionLaw
import Derived.Deep.RegionWith
import Derived.Test.YthkdfojmhloofaaTGramStreams0
section
namespace Go.Proofs.Ythkdfojmhloofaa.Q
open Go.RowKit Go.Proofs.YthkdfojmhloofaaW.PrintWords Go.Proofs.YthkdfojmhloofaaW.PrintLast Go.Proofs.YthkdfojmhloofaaW.PrintMore
attribute [local go_sem] max2_int min2_int max_two min_two max_three min_three max_four min_four   -- for this text's walks alone
set_option linter.unusedVariables false
set_option linter.unusedSimpArgs false
def errW : Option Int → Value
  | none => .nilIface
  | some c => .iface 0 (.int .i64 c)
theorem errW_none:errW none= .nilIface:=rfl
theorem errW_some (c:Int):errW (some c)= .iface 0 (.int .i64 c):=rfl
def idxByte (s:ByteArray) (c:Int):Int:=firstIdx s c.toNat.toUInt8
theorem nat77 (s:ByteArray) (c:Int) (w:World):(callFunc 77 #[.string s,.int .u8 c]).run Try.prog w= .ok (.value (.int .i64 (idxByte s c))) w:=by
  rw [run_callFunc_extern Try.func77 (by kernel_rfl) (by kernel_rfl) (by kernel_rfl) (e:=Extern.BytealgIndexByte.indexByte) (by kernel_rfl),run_indexByte_string s c];rfl
theorem bw0 {P Q  :Prop} (q:Q) (h:Q→P:=by intro q_;repeat (first|(with_reducible first|exact q_|apply below_alloc|apply pw_below_drewN|apply below_drew1)|exact q_)):P:=h q
theorem bf0 {P Q  :Prop} (q:Q) (h:Q→P:=by intro q_;(with_reducible repeat (first|refine blk_drewN ?_ _|refine blk_drew ?_|refine blk_alloc ?_ _));exact q_):P:=h q
theorem bw1 {P Q G0:Prop} (q:Q) (g0:G0) (h:Q→G0→P:=by intro q_ g0_;repeat (first|(with_reducible first|exact q_|apply below_alloc|apply pw_below_drewN|apply below_drew1|refine below_set ?_ g0_)|exact q_)):P:=h q g0
theorem bf1 {P Q G0:Prop} (q:Q) (g0:G0) (h:Q→G0→P:=by intro q_ g0_;(with_reducible repeat (first|refine blk_drewN ?_ _|refine blk_drew ?_|refine blk_alloc ?_ _));refine blk_far ?_ g0_ _;(with_reducible repeat (first|refine blk_drewN ?_ _|refine blk_drew ?_|refine blk_alloc ?_ _));exact q_):P:=h q g0
theorem bw2 {P Q G0 G1:Prop} (q:Q) (g0:G0) (g1:G1) (h:Q→G0→G1→P:=by intro q_ g0_ g1_;repeat (first|(with_reducible first|exact q_|apply below_alloc|apply pw_below_drewN|apply below_drew1|refine below_set ?_ g0_|refine below_set ?_ g1_)|exact q_)):P:=h q g0 g1
theorem bf2 {P Q G0 G1:Prop} (q:Q) (g0:G0) (g1:G1) (h:Q→G0→G1→P:=by intro q_ g0_ g1_;(with_reducible repeat (first|refine blk_drewN ?_ _|refine blk_drew ?_|refine blk_alloc ?_ _));refine blk_far ?_ g0_ _;(with_reducible repeat (first|refine blk_drewN ?_ _|refine blk_drew ?_|refine blk_alloc ?_ _));refine blk_far ?_ g1_ _;(with_reducible repeat (first|refine blk_drewN ?_ _|refine blk_drew ?_|refine blk_alloc ?_ _));exact q_):P:=h q g0 g1
theorem bw3 {P Q G0 G1 G2:Prop} (q:Q) (g0:G0) (g1:G1) (g2:G2) (h:Q→G0→G1→G2→P:=by intro q_ g0_ g1_ g2_;repeat (first|(with_reducible first|exact q_|apply below_alloc|apply pw_below_drewN|apply below_drew1|refine below_set ?_ g0_|refine below_set ?_ g1_|refine below_set ?_ g2_)|exact q_)):P:=h q g0 g1 g2
theorem bw4 {P Q G0 G1 G2 G3:Prop} (q:Q) (g0:G0) (g1:G1) (g2:G2) (g3:G3) (h:Q→G0→G1→G2→G3→P:=by intro q_ g0_ g1_ g2_ g3_;repeat (first|(with_reducible first|exact q_|apply below_alloc|apply pw_below_drewN|apply below_drew1|refine below_set ?_ g0_|refine below_set ?_ g1_|refine below_set ?_ g2_|refine below_set ?_ g3_)|exact q_)):P:=h q g0 g1 g2 g3
theorem bf4 {P Q G0 G1 G2 G3:Prop} (q:Q) (g0:G0) (g1:G1) (g2:G2) (g3:G3) (h:Q→G0→G1→G2→G3→P:=by intro q_ g0_ g1_ g2_ g3_;(with_reducible repeat (first|refine blk_drewN ?_ _|refine blk_drew ?_|refine blk_alloc ?_ _));refine blk_far ?_ g0_ _;(with_reducible repeat (first|refine blk_drewN ?_ _|refine blk_drew ?_|refine blk_alloc ?_ _));refine blk_far ?_ g1_ _;(with_reducible repeat (first|refine blk_drewN ?_ _|refine blk_drew ?_|refine blk_alloc ?_ _));refine blk_far ?_ g2_ _;(with_reducible repeat (first|refine blk_drewN ?_ _|refine blk_drew ?_|refine blk_alloc ?_ _));refine blk_far ?_ g3_ _;(with_reducible repeat (first|refine blk_drewN ?_ _|refine blk_drew ?_|refine blk_alloc ?_ _));exact q_):P:=h q g0 g1 g2 g3
theorem bw6 {P Q G0 G1 G2 G3 G4 G5:Prop} (q:Q) (g0:G0) (g1:G1) (g2:G2) (g3:G3) (g4:G4) (g5:G5) (h:Q→G0→G1→G2→G3→G4→G5→P:=by intro q_ g0_ g1_ g2_ g3_ g4_ g5_;repeat (first|(with_reducible first|exact q_|apply below_alloc|apply pw_below_drewN|apply below_drew1|refine below_set ?_ g0_|refine below_set ?_ g1_|refine below_set ?_ g2_|refine below_set ?_ g3_|refine below_set ?_ g4_|refine below_set ?_ g5_)|exact q_)):P:=h q g0 g1 g2 g3 g4 g5
theorem bf6 {P Q G0 G1 G2 G3 G4 G5:Prop} (q:Q) (g0:G0) (g1:G1) (g2:G2) (g3:G3) (g4:G4) (g5:G5) (h:Q→G0→G1→G2→G3→G4→G5→P:=by intro q_ g0_ g1_ g2_ g3_ g4_ g5_;(with_reducible repeat (first|refine blk_drewN ?_ _|refine blk_drew ?_|refine blk_alloc ?_ _));refine blk_far ?_ g0_ _;(with_reducible repeat (first|refine blk_drewN ?_ _|refine blk_drew ?_|refine blk_alloc ?_ _));refine blk_far ?_ g1_ _;(with_reducible repeat (first|refine blk_drewN ?_ _|refine blk_drew ?_|refine blk_alloc ?_ _));refine blk_far ?_ g2_ _;(with_reducible repeat (first|refine blk_drewN ?_ _|refine blk_drew ?_|refine blk_alloc ?_ _));refine blk_far ?_ g3_ _;(with_reducible repeat (first|refine blk_drewN ?_ _|refine blk_drew ?_|refine blk_alloc ?_ _));refine blk_far ?_ g4_ _;(with_reducible repeat (first|refine blk_drewN ?_ _|refine blk_drew ?_|refine blk_alloc ?_ _));refine blk_far ?_ g5_ _;(with_reducible repeat (first|refine blk_drewN ?_ _|refine blk_drew ?_|refine blk_alloc ?_ _));exact q_):P:=h q g0 g1 g2 g3 g4 g5
theorem Bx0 {W W1 w:World}{g:Nat}{o:Obj} (q:Aside0 (W.heap[g]? =some o)) (hb:Below W1.heap.size W1 w) (h:W.heap[g]? =some o→W1.heap[g]? =some o:=by intro q_;(with_reducible repeat (first|refine blk_drewN ?_ _|refine blk_drew ?_|refine blk_alloc ?_ _));exact q_):Aside0 (w.heap[g]? =some o):=⟨blk_below (h q.out) hb⟩
theorem Nl0 {W W1:World}{g g':Nat}{o:Obj} (q:Aside0 (W.heap[g]? =some o)) (hg:g'=W1.heap.size) (h:W.heap[g]? =some o→W1.heap[g]? =some o:=by intro q_;(with_reducible repeat (first|refine blk_drewN ?_ _|refine blk_drew ?_|refine blk_alloc ?_ _));exact q_):Aside0 (g≠g'):=⟨by rw [hg];exact Nat.ne_of_lt (blk_lt (h q.out))⟩
theorem Nr0 {W W1:World}{g g':Nat}{o:Obj} (q:Aside0 (W.heap[g]? =some o)) (hg:g'=W1.heap.size) (h:W.heap[g]? =some o→W1.heap[g]? =some o:=by intro q_;(with_reducible repeat (first|refine blk_drewN ?_ _|refine blk_drew ?_|refine blk_alloc ?_ _));exact q_):Aside0 (g'≠g):=⟨by rw [hg];exact Nat.ne_of_gt (blk_lt (h q.out))⟩
theorem Bs0 {w W W1 w2:World} (q:Aside0 (Below w.heap.size w W)) (hb:Below W1.heap.size W1 w2) (h:Below w.heap.size w W→Below w.heap.size w W1:=by intro q_;repeat (first|(with_reducible first|exact q_|apply below_alloc|apply pw_below_drewN|apply below_drew1)|exact q_)):Aside0 (Below w.heap.size w w2):=⟨below_step (h q.out) hb⟩
theorem Gw0 {w W W1:World}{g:Nat} (q:Aside0 (Below w.heap.size w W)) (hg:g=W1.heap.size) (h:Below w.heap.size w W→Below w.heap.size w W1:=by intro q_;repeat (first|(with_reducible first|exact q_|apply below_alloc|apply pw_below_drewN|apply below_drew1)|exact q_)):Aside0 (w.heap.size≤g):=⟨by rw [hg];exact below_size (h q.out)⟩
theorem Bx1 {W W1 w:World}{g:Nat}{o:Obj}{G0:Prop} (q:Aside0 (W.heap[g]? =some o)) (hb:Below W1.heap.size W1 w) (g0:G0) (h:W.heap[g]? =some o→G0→W1.heap[g]? =some o:=by intro q_ g0_;(with_reducible repeat (first|refine blk_drewN ?_ _|refine blk_drew ?_|refine blk_alloc ?_ _));refine blk_far ?_ g0_ _;(with_reducible repeat (first|refine blk_drewN ?_ _|refine blk_drew ?_|refine blk_alloc ?_ _));exact q_):Aside0 (w.heap[g]? =some o):=⟨blk_below (h q.out g0) hb⟩
theorem Nl1 {W W1:World}{g g':Nat}{o:Obj}{G0:Prop} (q:Aside0 (W.heap[g]? =some o)) (hg:g'=W1.heap.size) (g0:G0) (h:W.heap[g]? =some o→G0→W1.heap[g]? =some o:=by intro q_ g0_;(with_reducible repeat (first|refine blk_drewN ?_ _|refine blk_drew ?_|refine blk_alloc ?_ _));refine blk_far ?_ g0_ _;(with_reducible repeat (first|refine blk_drewN ?_ _|refine blk_drew ?_|refine blk_alloc ?_ _));exact q_):Aside0 (g≠g'):=⟨by rw [hg];exact Nat.ne_of_lt (blk_lt (h q.out g0))⟩
theorem Nr1 {W W1:World}{g g':Nat}{o:Obj}{G0:Prop} (q:Aside0 (W.heap[g]? =some o)) (hg:g'=W1.heap.size) (g0:G0) (h:W.heap[g]? =some o→G0→W1.heap[g]? =some o:=by intro q_ g0_;(with_reducible repeat (first|refine blk_drewN ?_ _|refine blk_drew ?_|refine blk_alloc ?_ _));refine blk_far ?_ g0_ _;(with_reducible repeat (first|refine blk_drewN ?_ _|refine blk_drew ?_|refine blk_alloc ?_ _));exact q_):Aside0 (g'≠g):=⟨by rw [hg];exact Nat.ne_of_gt (blk_lt (h q.out g0))⟩
theorem Bs1 {w W W1 w2:World}{G0:Prop} (q:Aside0 (Below w.heap.size w W)) (hb:Below W1.heap.size W1 w2) (g0:G0) (h:Below w.heap.size w W→G0→Below w.heap.size w W1:=by intro q_ g0_;repeat (first|(with_reducible first|exact q_|apply below_alloc|apply pw_below_drewN|apply below_drew1|refine below_set ?_ g0_)|exact q_)):Aside0 (Below w.heap.size w w2):=⟨below_step (h q.out g0) hb⟩
theorem Gw1 {w W W1:World}{g:Nat}{G0:Prop} (q:Aside0 (Below w.heap.size w W)) (hg:g=W1.heap.size) (g0:G0) (h:Below w.heap.size w W→G0→Below w.heap.size w W1:=by intro q_ g0_;repeat (first|(with_reducible first|exact q_|apply below_alloc|apply pw_below_drewN|apply below_drew1|refine below_set ?_ g0_)|exact q_)):Aside0 (w.heap.size≤g):=⟨by rw [hg];exact below_size (h q.out g0)⟩
theorem Bx2 {W W1 w:World}{g:Nat}{o:Obj}{G0 G1:Prop} (q:Aside0 (W.heap[g]? =some o)) (hb:Below W1.heap.size W1 w) (g0:G0) (g1:G1) (h:W.heap[g]? =some o→G0→G1→W1.heap[g]? =some o:=by intro q_ g0_ g1_;(with_reducible repeat (first|refine blk_drewN ?_ _|refine blk_drew ?_|refine blk_alloc ?_ _));refine blk_far ?_ g0_ _;(with_reducible repeat (first|refine blk_drewN ?_ _|refine blk_drew ?_|refine blk_alloc ?_ _));refine blk_far ?_ g1_ _;(with_reducible repeat (first|refine blk_drewN ?_ _|refine blk_drew ?_|refine blk_alloc ?_ _));exact q_):Aside0 (w.heap[g]? =some o):=⟨blk_below (h q.out g0 g1) hb⟩
theorem Nl2 {W W1:World}{g g':Nat}{o:Obj}{G0 G1:Prop} (q:Aside0 (W.heap[g]? =some o)) (hg:g'=W1.heap.size) (g0:G0) (g1:G1) (h:W.heap[g]? =some o→G0→G1→W1.heap[g]? =some o:=by intro q_ g0_ g1_;(with_reducible repeat (first|refine blk_drewN ?_ _|refine blk_drew ?_|refine blk_alloc ?_ _));refine blk_far ?_ g0_ _;(with_reducible repeat (first|refine blk_drewN ?_ _|refine blk_drew ?_|refine blk_alloc ?_ _));refine blk_far ?_ g1_ _;(with_reducible repeat (first|refine blk_drewN ?_ _|refine blk_drew ?_|refine blk_alloc ?_ _));exact q_):Aside0 (g≠g'):=⟨by rw [hg];exact Nat.ne_of_lt (blk_lt (h q.out g0 g1))⟩
theorem Nr2 {W W1:World}{g g':Nat}{o:Obj}{G0 G1:Prop} (q:Aside0 (W.heap[g]? =some o)) (hg:g'=W1.heap.size) (g0:G0) (g1:G1) (h:W.heap[g]? =some o→G0→G1→W1.heap[g]? =some o:=by intro q_ g0_ g1_;(with_reducible repeat (first|refine blk_drewN ?_ _|refine blk_drew ?_|refine blk_alloc ?_ _));refine blk_far ?_ g0_ _;(with_reducible repeat (first|refine blk_drewN ?_ _|refine blk_drew ?_|refine blk_alloc ?_ _));refine blk_far ?_ g1_ _;(with_reducible repeat (first|refine blk_drewN ?_ _|refine blk_drew ?_|refine blk_alloc ?_ _));exact q_):Aside0 (g'≠g):=⟨by rw [hg];exact Nat.ne_of_gt (blk_lt (h q.out g0 g1))⟩
theorem Bs2 {w W W1 w2:World}{G0 G1:Prop} (q:Aside0 (Below w.heap.size w W)) (hb:Below W1.heap.size W1 w2) (g0:G0) (g1:G1) (h:Below w.heap.size w W→G0→G1→Below w.heap.size w W1:=by intro q_ g0_ g1_;repeat (first|(with_reducible first|exact q_|apply below_alloc|apply pw_below_drewN|apply below_drew1|refine below_set ?_ g0_|refine below_set ?_ g1_)|exact q_)):Aside0 (Below w.heap.size w w2):=⟨below_step (h q.out g0 g1) hb⟩
theorem Gw2 {w W W1:World}{g:Nat}{G0 G1:Prop} (q:Aside0 (Below w.heap.size w W)) (hg:g=W1.heap.size) (g0:G0) (g1:G1) (h:Below w.heap.size w W→G0→G1→Below w.heap.size w W1:=by intro q_ g0_ g1_;repeat (first|(with_reducible first|exact q_|apply below_alloc|apply pw_below_drewN|apply below_drew1|refine below_set ?_ g0_|refine below_set ?_ g1_)|exact q_)):Aside0 (w.heap.size≤g):=⟨by rw [hg];exact below_size (h q.out g0 g1)⟩
theorem Bs3 {w W W1 w2:World}{G0 G1 G2:Prop} (q:Aside0 (Below w.heap.size w W)) (hb:Below W1.heap.size W1 w2) (g0:G0) (g1:G1) (g2:G2) (h:Below w.heap.size w W→G0→G1→G2→Below w.heap.size w W1:=by intro q_ g0_ g1_ g2_;repeat (first|(with_reducible first|exact q_|apply below_alloc|apply pw_below_drewN|apply below_drew1|refine below_set ?_ g0_|refine below_set ?_ g1_|refine below_set ?_ g2_)|exact q_)):Aside0 (Below w.heap.size w w2):=⟨below_step (h q.out g0 g1 g2) hb⟩
theorem Bx4 {W W1 w:World}{g:Nat}{o:Obj}{G0 G1 G2 G3:Prop} (q:Aside0 (W.heap[g]? =some o)) (hb:Below W1.heap.size W1 w) (g0:G0) (g1:G1) (g2:G2) (g3:G3) (h:W.heap[g]? =some o→G0→G1→G2→G3→W1.heap[g]? =some o:=by intro q_ g0_ g1_ g2_ g3_;(with_reducible repeat (first|refine blk_drewN ?_ _|refine blk_drew ?_|refine blk_alloc ?_ _));refine blk_far ?_ g0_ _;(with_reducible repeat (first|refine blk_drewN ?_ _|refine blk_drew ?_|refine blk_alloc ?_ _));refine blk_far ?_ g1_ _;(with_reducible repeat (first|refine blk_drewN ?_ _|refine blk_drew ?_|refine blk_alloc ?_ _));refine blk_far ?_ g2_ _;(with_reducible repeat (first|refine blk_drewN ?_ _|refine blk_drew ?_|refine blk_alloc ?_ _));refine blk_far ?_ g3_ _;(with_reducible repeat (first|refine blk_drewN ?_ _|refine blk_drew ?_|refine blk_alloc ?_ _));exact q_):Aside0 (w.heap[g]? =some o):=⟨blk_below (h q.out g0 g1 g2 g3) hb⟩
theorem Nl4 {W W1:World}{g g':Nat}{o:Obj}{G0 G1 G2 G3:Prop} (q:Aside0 (W.heap[g]? =some o)) (hg:g'=W1.heap.size) (g0:G0) (g1:G1) (g2:G2) (g3:G3) (h:W.heap[g]? =some o→G0→G1→G2→G3→W1.heap[g]? =some o:=by intro q_ g0_ g1_ g2_ g3_;(with_reducible repeat (first|refine blk_drewN ?_ _|refine blk_drew ?_|refine blk_alloc ?_ _));refine blk_far ?_ g0_ _;(with_reducible repeat (first|refine blk_drewN ?_ _|refine blk_drew ?_|refine blk_alloc ?_ _));refine blk_far ?_ g1_ _;(with_reducible repeat (first|refine blk_drewN ?_ _|refine blk_drew ?_|refine blk_alloc ?_ _));refine blk_far ?_ g2_ _;(with_reducible repeat (first|refine blk_drewN ?_ _|refine blk_drew ?_|refine blk_alloc ?_ _));refine blk_far ?_ g3_ _;(with_reducible repeat (first|refine blk_drewN ?_ _|refine blk_drew ?_|refine blk_alloc ?_ _));exact q_):Aside0 (g≠g'):=⟨by rw [hg];exact Nat.ne_of_lt (blk_lt (h q.out g0 g1 g2 g3))⟩
theorem Nr4 {W W1:World}{g g':Nat}{o:Obj}{G0 G1 G2 G3:Prop} (q:Aside0 (W.heap[g]? =some o)) (hg:g'=W1.heap.size) (g0:G0) (g1:G1) (g2:G2) (g3:G3) (h:W.heap[g]? =some o→G0→G1→G2→G3→W1.heap[g]? =some o:=by intro q_ g0_ g1_ g2_ g3_;(with_reducible repeat (first|refine blk_drewN ?_ _|refine blk_drew ?_|refine blk_alloc ?_ _));refine blk_far ?_ g0_ _;(with_reducible repeat (first|refine blk_drewN ?_ _|refine blk_drew ?_|refine blk_alloc ?_ _));refine blk_far ?_ g1_ _;(with_reducible repeat (first|refine blk_drewN ?_ _|refine blk_drew ?_|refine blk_alloc ?_ _));refine blk_far ?_ g2_ _;(with_reducible repeat (first|refine blk_drewN ?_ _|refine blk_drew ?_|refine blk_alloc ?_ _));refine blk_far ?_ g3_ _;(with_reducible repeat (first|refine blk_drewN ?_ _|refine blk_drew ?_|refine blk_alloc ?_ _));exact q_):Aside0 (g'≠g):=⟨by rw [hg];exact Nat.ne_of_gt (blk_lt (h q.out g0 g1 g2 g3))⟩
theorem Bx6 {W W1 w:World}{g:Nat}{o:Obj}{G0 G1 G2 G3 G4 G5:Prop} (q:Aside0 (W.heap[g]? =some o)) (hb:Below W1.heap.size W1 w) (g0:G0) (g1:G1) (g2:G2) (g3:G3) (g4:G4) (g5:G5) (h:W.heap[g]? =some o→G0→G1→G2→G3→G4→G5→W1.heap[g]? =some o:=by intro q_ g0_ g1_ g2_ g3_ g4_ g5_;(with_reducible repeat (first|refine blk_drewN ?_ _|refine blk_drew ?_|refine blk_alloc ?_ _));refine blk_far ?_ g0_ _;(with_reducible repeat (first|refine blk_drewN ?_ _|refine blk_drew ?_|refine blk_alloc ?_ _));refine blk_far ?_ g1_ _;(with_reducible repeat (first|refine blk_drewN ?_ _|refine blk_drew ?_|refine blk_alloc ?_ _));refine blk_far ?_ g2_ _;(with_reducible repeat (first|refine blk_drewN ?_ _|refine blk_drew ?_|refine blk_alloc ?_ _));refine blk_far ?_ g3_ _;(with_reducible repeat (first|refine blk_drewN ?_ _|refine blk_drew ?_|refine blk_alloc ?_ _));refine blk_far ?_ g4_ _;(with_reducible repeat (first|refine blk_drewN ?_ _|refine blk_drew ?_|refine blk_alloc ?_ _));refine blk_far ?_ g5_ _;(with_reducible repeat (first|refine blk_drewN ?_ _|refine blk_drew ?_|refine blk_alloc ?_ _));exact q_):Aside0 (w.heap[g]? =some o):=⟨blk_below (h q.out g0 g1 g2 g3 g4 g5) hb⟩
theorem cl2 {W:World}{g:Nat}{t:TypeId}{x0 x1:Value} (h:Aside0 (W.heap[g]? =some (.cells #[x0,x1] t (0,0)))):W.cell? ⟨g,0,none⟩=some x0∧W.cell? ⟨g,1,none⟩=some x1∧W.frozen? ⟨g,0,none⟩=false∧W.frozen? ⟨g,1,none⟩=false:=⟨(blk_cell h.out 0).trans rfl,(blk_cell h.out 1).trans rfl,blk_frozen h.out 0,blk_frozen h.out 1⟩
theorem cl4 {W:World}{g:Nat}{t:TypeId}{x0 x1 x2 x3:Value} (h:Aside0 (W.heap[g]? =some (.cells #[x0,x1,x2,x3] t (0,0)))):W.cell? ⟨g,0,none⟩=some x0∧W.cell? ⟨g,1,none⟩=some x1∧W.cell? ⟨g,2,none⟩=some x2∧W.cell? ⟨g,3,none⟩=some x3∧W.frozen? ⟨g,0,none⟩=false∧W.frozen? ⟨g,1,none⟩=false∧W.frozen? ⟨g,2,none⟩=false∧W.frozen? ⟨g,3,none⟩=false:=⟨(blk_cell h.out 0).trans rfl,(blk_cell h.out 1).trans rfl,(blk_cell h.out 2).trans rfl,(blk_cell h.out 3).trans rfl,blk_frozen h.out 0,blk_frozen h.out 1,blk_frozen h.out 2,blk_frozen h.out 3⟩
theorem cl7 {W:World}{g:Nat}{t:TypeId}{x0 x1 x2 x3 x4 x5 x6:Value} (h:Aside0 (W.heap[g]? =some (.cells #[x0,x1,x2,x3,x4,x5,x6] t (0,0)))):W.cell? ⟨g,0,none⟩=some x0∧W.cell? ⟨g,1,none⟩=some x1∧W.cell? ⟨g,2,none⟩=some x2∧W.cell? ⟨g,3,none⟩=some x3∧W.cell? ⟨g,4,none⟩=some x4∧W.cell? ⟨g,5,none⟩=some x5∧W.cell? ⟨g,6,none⟩=some x6∧W.frozen? ⟨g,0,none⟩=false∧W.frozen? ⟨g,1,none⟩=false∧W.frozen? ⟨g,2,none⟩=false∧W.frozen? ⟨g,3,none⟩=false∧W.frozen? ⟨g,4,none⟩=false∧W.frozen? ⟨g,5,none⟩=false∧W.frozen? ⟨g,6,none⟩=false:=⟨(blk_cell h.out 0).trans rfl,(blk_cell h.out 1).trans rfl,(blk_cell h.out 2).trans rfl,(blk_cell h.out 3).trans rfl,(blk_cell h.out 4).trans rfl,(blk_cell h.out 5).trans rfl,(blk_cell h.out 6).trans rfl,blk_frozen h.out 0,blk_frozen h.out 1,blk_frozen h.out 2,blk_frozen h.out 3,blk_frozen h.out 4,blk_frozen h.out 5,blk_frozen h.out 6⟩
theorem cl12 {W:World}{g:Nat}{t:TypeId}{x0 x1 x2 x3 x4 x5 x6 x7 x8 x9 x10 x11:Value} (h:Aside0 (W.heap[g]? =some (.cells #[x0,x1,x2,x3,x4,x5,x6,x7,x8,x9,x10,x11] t (0,0)))):W.cell? ⟨g,0,none⟩=some x0∧W.cell? ⟨g,1,none⟩=some x1∧W.cell? ⟨g,2,none⟩=some x2∧W.cell? ⟨g,3,none⟩=some x3∧W.cell? ⟨g,4,none⟩=some x4∧W.cell? ⟨g,5,none⟩=some x5∧W.cell? ⟨g,6,none⟩=some x6∧W.cell? ⟨g,7,none⟩=some x7∧W.cell? ⟨g,8,none⟩=some x8∧W.cell? ⟨g,9,none⟩=some x9∧W.cell? ⟨g,10,none⟩=some x10∧W.cell? ⟨g,11,none⟩=some x11∧W.frozen? ⟨g,0,none⟩=false∧W.frozen? ⟨g,1,none⟩=false∧W.frozen? ⟨g,2,none⟩=false∧W.frozen? ⟨g,3,none⟩=false∧W.frozen? ⟨g,4,none⟩=false∧W.frozen? ⟨g,5,none⟩=false∧W.frozen? ⟨g,6,none⟩=false∧W.frozen? ⟨g,7,none⟩=false∧W.frozen? ⟨g,8,none⟩=false∧W.frozen? ⟨g,9,none⟩=false∧W.frozen? ⟨g,10,none⟩=false∧W.frozen? ⟨g,11,none⟩=false:=⟨(blk_cell h.out 0).trans rfl,(blk_cell h.out 1).trans rfl,(blk_cell h.out 2).trans rfl,(blk_cell h.out 3).trans rfl,(blk_cell h.out 4).trans rfl,(blk_cell h.out 5).trans rfl,(blk_cell h.out 6).trans rfl,(blk_cell h.out 7).trans rfl,(blk_cell h.out 8).trans rfl,(blk_cell h.out 9).trans rfl,(blk_cell h.out 10).trans rfl,(blk_cell h.out 11).trans rfl,blk_frozen h.out 0,blk_frozen h.out 1,blk_frozen h.out 2,blk_frozen h.out 3,blk_frozen h.out 4,blk_frozen h.out 5,blk_frozen h.out 6,blk_frozen h.out 7,blk_frozen h.out 8,blk_frozen h.out 9,blk_frozen h.out 10,blk_frozen h.out 11⟩
theorem cl13 {W:World}{g:Nat}{t:TypeId}{x0 x1 x2 x3 x4 x5 x6 x7 x8 x9 x10 x11 x12:Value} (h:Aside0 (W.heap[g]? =some (.cells #[x0,x1,x2,x3,x4,x5,x6,x7,x8,x9,x10,x11,x12] t (0,0)))):W.cell? ⟨g,0,none⟩=some x0∧W.cell? ⟨g,1,none⟩=some x1∧W.cell? ⟨g,2,none⟩=some x2∧W.cell? ⟨g,3,none⟩=some x3∧W.cell? ⟨g,4,none⟩=some x4∧W.cell? ⟨g,5,none⟩=some x5∧W.cell? ⟨g,6,none⟩=some x6∧W.cell? ⟨g,7,none⟩=some x7∧W.cell? ⟨g,8,none⟩=some x8∧W.cell? ⟨g,9,none⟩=some x9∧W.cell? ⟨g,10,none⟩=some x10∧W.cell? ⟨g,11,none⟩=some x11∧W.cell? ⟨g,12,none⟩=some x12∧W.frozen? ⟨g,0,none⟩=false∧W.frozen? ⟨g,1,none⟩=false∧W.frozen? ⟨g,2,none⟩=false∧W.frozen? ⟨g,3,none⟩=false∧W.frozen? ⟨g,4,none⟩=false∧W.frozen? ⟨g,5,none⟩=false∧W.frozen? ⟨g,6,none⟩=false∧W.frozen? ⟨g,7,none⟩=false∧W.frozen? ⟨g,8,none⟩=false∧W.frozen? ⟨g,9,none⟩=false∧W.frozen? ⟨g,10,none⟩=false∧W.frozen? ⟨g,11,none⟩=false∧W.frozen? ⟨g,12,none⟩=false:=⟨(blk_cell h.out 0).trans rfl,(blk_cell h.out 1).trans rfl,(blk_cell h.out 2).trans rfl,(blk_cell h.out 3).trans rfl,(blk_cell h.out 4).trans rfl,(blk_cell h.out 5).trans rfl,(blk_cell h.out 6).trans rfl,(blk_cell h.out 7).trans rfl,(blk_cell h.out 8).trans rfl,(blk_cell h.out 9).trans rfl,(blk_cell h.out 10).trans rfl,(blk_cell h.out 11).trans rfl,(blk_cell h.out 12).trans rfl,blk_frozen h.out 0,blk_frozen h.out 1,blk_frozen h.out 2,blk_frozen h.out 3,blk_frozen h.out 4,blk_frozen h.out 5,blk_frozen h.out 6,blk_frozen h.out 7,blk_frozen h.out 8,blk_frozen h.out 9,blk_frozen h.out 10,blk_frozen h.out 11,blk_frozen h.out 12⟩
theorem cl14 {W:World}{g:Nat}{t:TypeId}{x0 x1 x2 x3 x4 x5 x6 x7 x8 x9 x10 x11 x12 x13:Value} (h:Aside0 (W.heap[g]? =some (.cells #[x0,x1,x2,x3,x4,x5,x6,x7,x8,x9,x10,x11,x12,x13] t (0,0)))):W.cell? ⟨g,0,none⟩=some x0∧W.cell? ⟨g,1,none⟩=some x1∧W.cell? ⟨g,2,none⟩=some x2∧W.cell? ⟨g,3,none⟩=some x3∧W.cell? ⟨g,4,none⟩=some x4∧W.cell? ⟨g,5,none⟩=some x5∧W.cell? ⟨g,6,none⟩=some x6∧W.cell? ⟨g,7,none⟩=some x7∧W.cell? ⟨g,8,none⟩=some x8∧W.cell? ⟨g,9,none⟩=some x9∧W.cell? ⟨g,10,none⟩=some x10∧W.cell? ⟨g,11,none⟩=some x11∧W.cell? ⟨g,12,none⟩=some x12∧W.cell? ⟨g,13,none⟩=some x13∧W.frozen? ⟨g,0,none⟩=false∧W.frozen? ⟨g,1,none⟩=false∧W.frozen? ⟨g,2,none⟩=false∧W.frozen? ⟨g,3,none⟩=false∧W.frozen? ⟨g,4,none⟩=false∧W.frozen? ⟨g,5,none⟩=false∧W.frozen? ⟨g,6,none⟩=false∧W.frozen? ⟨g,7,none⟩=false∧W.frozen? ⟨g,8,none⟩=false∧W.frozen? ⟨g,9,none⟩=false∧W.frozen? ⟨g,10,none⟩=false∧W.frozen? ⟨g,11,none⟩=false∧W.frozen? ⟨g,12,none⟩=false∧W.frozen? ⟨g,13,none⟩=false:=⟨(blk_cell h.out 0).trans rfl,(blk_cell h.out 1).trans rfl,(blk_cell h.out 2).trans rfl,(blk_cell h.out 3).trans rfl,(blk_cell h.out 4).trans rfl,(blk_cell h.out 5).trans rfl,(blk_cell h.out 6).trans rfl,(blk_cell h.out 7).trans rfl,(blk_cell h.out 8).trans rfl,(blk_cell h.out 9).trans rfl,(blk_cell h.out 10).trans rfl,(blk_cell h.out 11).trans rfl,(blk_cell h.out 12).trans rfl,(blk_cell h.out 13).trans rfl,blk_frozen h.out 0,blk_frozen h.out 1,blk_frozen h.out 2,blk_frozen h.out 3,blk_frozen h.out 4,blk_frozen h.out 5,blk_frozen h.out 6,blk_frozen h.out 7,blk_frozen h.out 8,blk_frozen h.out 9,blk_frozen h.out 10,blk_frozen h.out 11,blk_frozen h.out 12,blk_frozen h.out 13⟩
theorem eS {P:Prop} (h:P:=by first|rfl|(simp [errW_none,errW_some] <;> rfl)|(simp [*,errW_none,errW_some] <;> rfl)):P:=h
theorem Ax {p:Prop} (h:p):Aside0 p:=⟨h⟩
abbrev tr:Bool:=true
abbrev fa:Bool:=false
theorem rS {P:Prop} (h:P:=by first|rfl|(simp;done)|(simp [*];done)):P:=h
theorem gS {P:Prop} (h:P:=by (try simp only[List.map_toArray,List.map_cons,List.map_nil]);first|done|rfl|(simp only[List.length_drop,List.length_take];rfl)|(simp only[Int.toNat_natCast,ByteArray.extract_zero_size];rfl)|(simp only[Int.toNat_natCast,ByteArray.extract_zero_size];done)):P:=h
theorem sP:(∀ (a:Act) (d:Tmp) (v:Value),Act.put a (some d) v= {a with tmps:=a.tmps.setIfInBounds d v})∧(∀ (a:Act) (v:Value),Act.put a none v=a)∧(∀ (l:List Value) (i:Nat) (a:Value),l.toArray.setIfInBounds i a=(l.set i a).toArray)∧(∀ (l:List Value) (x a:Value),(x :: l).set 0 a=a :: l)∧(∀ (l:List Value) (x a:Value) (n:Nat),(x :: l).set (n+1) a=x :: l.set n a)∧(∀ n:Int,IntKind.i64.wrap n=Go.RowKit.wrap64 n)∧(∀ n:Int,IntKind.i32.wrap n=Go.RowKit.wrap32 n):=⟨fun _ _ _=>rfl,fun _ _=>rfl,fun _ _ _=>List.setIfInBounds_toArray ..,fun _ _ _=>rfl,fun _ _ _ _=>rfl,i64_w,i32_w⟩
theorem gB {Q P : Prop} (q : Q) (h : Q → P := by intro q_; (repeat (first | with_reducible refine blk_drewN ?_ _ | with_reducible refine blk_drew ?_ | with_reducible refine blk_alloc ?_ _ | with_reducible apply blk_put)); (exact q_); (all_goals ((try simp only [sP]); (try rfl)))) : P := h q
theorem pz {P : Program} {ops : Array Oper} {Q : Exit → Act → World → Prop} {md : Region.Mode} {S : World → Prop} {ds : List Nat} {T : Bool × List (List Nat × List Nat)} {oi : Oper} {v : Value} {fuel : Nat} {l : Array Bool} {a a' : Act} {w : World} (i n : Nat) (l' : Array Bool) (hT : rtab md ops = T)
    (h : wpAnyLast P md ops Q S ds fuel l' a' w) (hk : anyT T l.toList l'.toList i = true := by kernel_rfl) (hi : ops[i]? = some oi := by rfl) (hN : oi.dst = some n := by rfl) (hQ : ∀ c a w, Q (.panic c) (a.put oi.dst v) w → Q (.panic c) a w := by exact fun _ _ _ h => h)
    (hy : Yields P ops oi v a := by refine Or.inl ⟨by rfl, ?_⟩; intro w'; go_simp; with_reducible rfl) (ha : a.put (some n) v = a' := by simp only [sP]; rfl) : wpAnyLast P md ops Q S ds (fuel + 1) l a w :=
  pure_ l' hi hN (any_of hT hk) hQ hy ha h
theorem gF {R Q P : Prop} (r : R) (q : Q) (h : R → Q → P := by intro r_ q_; (repeat (first | with_reducible refine blk_drewN ?_ _ | with_reducible refine blk_drew ?_ | with_reducible refine blk_alloc ?_ _ | with_reducible apply blk_put | refine blk_far ?_ (by first | exact r_ | exact r_.1 | exact r_.2 | exact r_.2.1 | exact r_.2.2 | exact r_.2.2.1 | exact r_.2.2.2) _)); (exact q_); (all_goals ((try simp only [sP]); (try rfl)))) : P := h r q
theorem gK {Q P : Prop} (q : Q) (h : Q → P := by intro q_; (repeat (refine And.intro ((blk_cell q_ _).trans rfl) ?_)); exact (blk_cell q_ _).trans rfl) : P := h q
theorem gL {R Q P : Prop} (r : R) (q : Q) (h : R → Q → P := by intro r_ q_; (repeat (refine And.intro ?_ ?_; (· (repeat (refine Eq.trans (cell_far (by exact r_) _) ?_)); exact q_.1); replace q_ := q_.2)); (repeat (refine Eq.trans (cell_far (by exact r_) _) ?_)); exact q_) : P := h r q
theorem pu {P : Program} {ops : Array Oper} {Q : Exit → Act → World → Prop} {md : Region.Mode} {S : World → Prop} {ds : List Nat} {T : Bool × List (List Nat × List Nat)} {oi : Oper} {fuel : Nat} {l : Array Bool} {a a' : Act} {w : World} (i n : Nat) (l' : Array Bool) (hT : rtab md ops = T)
    (h : wpAnyLast P md ops Q S ds fuel l' a' w) (hk : anyT T l.toList l'.toList i = true := by kernel_rfl) (hi : ops[i]? = some oi := by rfl) (hN : oi.dst = some n := by rfl) (hQ : ∀ c a w, Q (.panic c) (a.put oi.dst undef) w → Q (.panic c) a w := by exact fun _ _ _ h => h)
    (hy : Yields P ops oi undef a := by exact Or.inr ⟨by rfl, rfl⟩) (ha : a.put (some n) undef = a' := by simp only [sP]; rfl) : wpAnyLast P md ops Q S ds (fuel + 1) l a w :=
  pure_ l' hi hN (any_of hT hk) hQ hy ha h
theorem info3:(Try.prog.info? 3).map (fun i=>(i.zero,i.size,i.bytes))=some (some (.int .i64 0),1,8):=by kernel_rfl
theorem info5:(Try.prog.info? 5).map (fun i=>(i.zero,i.size,i.bytes))=some (some (.int .u8 0),1,1):=by kernel_rfl
theorem info24:(Try.prog.info? 24).map (fun i=>(i.zero,i.size,i.bytes))=some (some (.agg #[(.int .u8 0),(.string ⟨#[]⟩)]),2,24):=by kernel_rfl
theorem info38:(Try.prog.info? 38).map (fun i=>(i.zero,i.size,i.bytes))=some (some (.agg #[(.int .u8 0),(.int .i64 0),(.int .u64 0),(.int .i64 0),(.bool false),(.int .u64 0),(.int .u64 0),(.int .i64 0),(.int .u8 0),(.int .i64 0),(.int .i64 0),(.int .i64 0),(.int .i64 0)]),13,104):=by kernel_rfl
structure S24 where
  f0 : Int
  f1 : ByteArray
def z24:S24:=⟨(0:Int),(⟨#[]⟩:ByteArray)⟩
def k24:Kd S24:=Kd.iso (Kd.pair (Kd.int .u8) Kd.string) (fun x:S24=>(x.f0,x.f1))
theorem k24_open {w:World}{x:S24}{cs:List Value} (h:k24.K w x cs):cs= [.int .u8 x.f0,.string x.f1]:=by
  obtain⟨_,_,rfl,rfl,rfl⟩:=h;exact rfl
theorem k24_mkM (w:World) (base:Nat) (ok:Nat→Prop) (x:S24)  :k24.M w base ok x [.int .u8 x.f0,.string x.f1]:=⟨[.int .u8 x.f0], [.string x.f1],rfl,rfl,rfl⟩
def rd_T24 (xs:List S24) (i:Int):S24:=xs.getD i.toNat z24
theorem at_T24 {w:World}{A:Option Addr}{n:Nat}{xs:List S24} (h:Kd.C k24 w A n xs) (i:Int) (h0:0≤i) (h1:i<n): ∃ ad,A=some ad∧w.cell? (ad.add (i.toNat * 2))=some (.int .u8 (rd_T24 xs i).f0)∧w.cell? ⟨(ad.add (i.toNat * 2)).block,(ad.add (i.toNat * 2)).off+1,none⟩=some (.string (rd_T24 xs i).f1):=by
  obtain⟨ad,c,e,_,hK,hc0⟩:=Kd.C_get h z24 i h0 h1;have hc: ∀ j u,c[j]? =some u→w.cell? (ad.add (i.toNat * 2+j))=some u:=hc0;obtain rfl:=k24_open hK;exact⟨ad,e,hc 0 _ rfl,by rw [← add_field _ _ 1 (by omega)];exact hc 1 _ rfl⟩
structure S28 where
  f0 : Int
  f1 : Int
def z28:S28:=⟨(0:Int),(0:Int)⟩
def k28:Kd S28:=Kd.iso (Kd.pair (Kd.int .u64) (Kd.int .u64)) (fun x:S28=>(x.f0,x.f1))
theorem k28_open {w:World}{x:S28}{cs:List Value} (h:k28.K w x cs):cs= [.int .u64 x.f0,.int .u64 x.f1]:=by
  obtain⟨_,_,rfl,rfl,rfl⟩:=h;exact rfl
theorem k28_mkM (w:World) (base:Nat) (ok:Nat→Prop) (x:S28)  :k28.M w base ok x [.int .u64 x.f0,.int .u64 x.f1]:=⟨[.int .u64 x.f0], [.int .u64 x.f1],rfl,rfl,rfl⟩
structure S30 where
  f0 : Bool
  f1 : S28
  f2 : Int
def z30:S30:=⟨false,z28,(0:Int)⟩
def k30:Kd S30:=Kd.iso (Kd.pair Kd.bool (Kd.pair k28 (Kd.int .i64))) (fun x:S30=>(x.f0,x.f1,x.f2))
theorem k30_open {w:World}{x:S30}{cs:List Value} (h:k30.K w x cs):cs= [.bool x.f0,.int .u64 x.f1.f0,.int .u64 x.f1.f1,.int .i64 x.f2]:=by
  obtain⟨_,_,rfl,rfl,⟨_,_,rfl,s1,rfl⟩⟩:=h;obtain rfl:=k28_open s1;exact rfl
theorem k30_mkM (w:World) (base:Nat) (ok:Nat→Prop) (x:S30)  :k30.M w base ok x [.bool x.f0,.int .u64 x.f1.f0,.int .u64 x.f1.f1,.int .i64 x.f2]:=⟨[.bool x.f0], [.int .u64 x.f1.f0,.int .u64 x.f1.f1,.int .i64 x.f2],rfl,rfl,⟨[.int .u64 x.f1.f0,.int .u64 x.f1.f1], [.int .i64 x.f2],rfl,(k28_mkM w base ok x.f1),rfl⟩⟩
structure S33 where
  f0 : Int
  f1 : Int
def z33:S33:=⟨(0:Int),(0:Int)⟩
def k33:Kd S33:=Kd.iso (Kd.pair (Kd.int .u8) (Kd.int .i64)) (fun x:S33=>(x.f0,x.f1))
theorem k33_open {w:World}{x:S33}{cs:List Value} (h:k33.K w x cs):cs= [.int .u8 x.f0,.int .i64 x.f1]:=by
  obtain⟨_,_,rfl,rfl,rfl⟩:=h;exact rfl
theorem k33_mkM (w:World) (base:Nat) (ok:Nat→Prop) (x:S33)  :k33.M w base ok x [.int .u8 x.f0,.int .i64 x.f1]:=⟨[.int .u8 x.f0], [.int .i64 x.f1],rfl,rfl,rfl⟩
structure S35 where
  f0 : Int
  f1 : Int
  f2 : Int
  f3 : Int
  f4 : S30
  f5 : S33
  f6 : Int
  f7 : Int
def z35:S35:=⟨(0:Int),(0:Int),(0:Int),(0:Int),z30,z33,(0:Int),(0:Int)⟩
def k35:Kd S35:=Kd.iso (Kd.pair (Kd.int .u8) (Kd.pair (Kd.int .i64) (Kd.pair (Kd.int .u64) (Kd.pair (Kd.int .i64) (Kd.pair k30 (Kd.pair k33 (Kd.pair (Kd.int .i64) (Kd.int .i64)))))))) (fun x:S35=>(x.f0,x.f1,x.f2,x.f3,x.f4,x.f5,x.f6,x.f7))
theorem k35_open {w:World}{x:S35}{cs:List Value} (h:k35.K w x cs):cs= [.int .u8 x.f0,.int .i64 x.f1,.int .u64 x.f2,.int .i64 x.f3,.bool x.f4.f0,.int .u64 x.f4.f1.f0,.int .u64 x.f4.f1.f1,.int .i64 x.f4.f2,.int .u8 x.f5.f0,.int .i64 x.f5.f1,.int .i64 x.f6,.int .i64 x.f7]:=by
  obtain⟨_,_,rfl,rfl,⟨_,_,rfl,rfl,⟨_,_,rfl,rfl,⟨_,_,rfl,rfl,⟨_,_,rfl,s4,⟨_,_,rfl,s8,⟨_,_,rfl,rfl,rfl⟩⟩⟩⟩⟩⟩⟩:=h;obtain rfl:=k30_open s4;obtain rfl:=k33_open s8;exact rfl
theorem k35_mkM (w:World) (base:Nat) (ok:Nat→Prop) (x:S35)  :k35.M w base ok x [.int .u8 x.f0,.int .i64 x.f1,.int .u64 x.f2,.int .i64 x.f3,.bool x.f4.f0,.int .u64 x.f4.f1.f0,.int .u64 x.f4.f1.f1,.int .i64 x.f4.f2,.int .u8 x.f5.f0,.int .i64 x.f5.f1,.int .i64 x.f6,.int .i64 x.f7]:=⟨[.int .u8 x.f0], [.int .i64 x.f1,.int .u64 x.f2,.int .i64 x.f3,.bool x.f4.f0,.int .u64 x.f4.f1.f0,.int .u64 x.f4.f1.f1,.int .i64 x.f4.f2,.int .u8 x.f5.f0,.int .i64 x.f5.f1,.int .i64 x.f6,.int .i64 x.f7],rfl,rfl,⟨[.int .i64 x.f1], [.int .u64 x.f2,.int .i64 x.f3,.bool x.f4.f0,.int .u64 x.f4.f1.f0,.int .u64 x.f4.f1.f1,.int .i64 x.f4.f2,.int .u8 x.f5.f0,.int .i64 x.f5.f1,.int .i64 x.f6,.int .i64 x.f7],rfl,rfl,⟨[.int .u64 x.f2], [.int .i64 x.f3,.bool x.f4.f0,.int .u64 x.f4.f1.f0,.int .u64 x.f4.f1.f1,.int .i64 x.f4.f2,.int .u8 x.f5.f0,.int .i64 x.f5.f1,.int .i64 x.f6,.int .i64 x.f7],rfl,rfl,⟨[.int .i64 x.f3], [.bool x.f4.f0,.int .u64 x.f4.f1.f0,.int .u64 x.f4.f1.f1,.int .i64 x.f4.f2,.int .u8 x.f5.f0,.int .i64 x.f5.f1,.int .i64 x.f6,.int .i64 x.f7],rfl,rfl,⟨[.bool x.f4.f0,.int .u64 x.f4.f1.f0,.int .u64 x.f4.f1.f1,.int .i64 x.f4.f2], [.int .u8 x.f5.f0,.int .i64 x.f5.f1,.int .i64 x.f6,.int .i64 x.f7],rfl,(k30_mkM w base ok x.f4),⟨[.int .u8 x.f5.f0,.int .i64 x.f5.f1], [.int .i64 x.f6,.int .i64 x.f7],rfl,(k33_mkM w base ok x.f5),⟨[.int .i64 x.f6], [.int .i64 x.f7],rfl,rfl,rfl⟩⟩⟩⟩⟩⟩⟩
def rd_T35 (xs:List S35) (i:Int):S35:=xs.getD i.toNat z35
theorem at_T35 {w:World}{A:Option Addr}{n:Nat}{xs:List S35} (h:Kd.C k35 w A n xs) (i:Int) (h0:0≤i) (h1:i<n): ∃ ad,A=some ad∧w.cell? (ad.add (i.toNat * 12))=some (.int .u8 (rd_T35 xs i).f0)∧w.cell? ⟨(ad.add (i.toNat * 12)).block,(ad.add (i.toNat * 12)).off+1,none⟩=some (.int .i64 (rd_T35 xs i).f1)∧w.cell? ⟨(ad.add (i.toNat * 12)).block,(ad.add (i.toNat * 12)).off+2,none⟩=some (.int .u64 (rd_T35 xs i).f2)∧w.cell? ⟨(ad.add (i.toNat * 12)).block,(ad.add (i.toNat * 12)).off+3,none⟩=some (.int .i64 (rd_T35 xs i).f3)∧w.cell? ⟨(ad.add (i.toNat * 12)).block,(ad.add (i.toNat * 12)).off+4,none⟩=some (.bool (rd_T35 xs i).f4.f0)∧w.cell? ⟨(ad.add (i.toNat * 12)).block,(ad.add (i.toNat * 12)).off+5,none⟩=some (.int .u64 (rd_T35 xs i).f4.f1.f0)∧w.cell? ⟨(ad.add (i.toNat * 12)).block,(ad.add (i.toNat * 12)).off+6,none⟩=some (.int .u64 (rd_T35 xs i).f4.f1.f1)∧w.cell? ⟨(ad.add (i.toNat * 12)).block,(ad.add (i.toNat * 12)).off+7,none⟩=some (.int .i64 (rd_T35 xs i).f4.f2)∧w.cell? ⟨(ad.add (i.toNat * 12)).block,(ad.add (i.toNat * 12)).off+8,none⟩=some (.int .u8 (rd_T35 xs i).f5.f0)∧w.cell? ⟨(ad.add (i.toNat * 12)).block,(ad.add (i.toNat * 12)).off+9,none⟩=some (.int .i64 (rd_T35 xs i).f5.f1)∧w.cell? ⟨(ad.add (i.toNat * 12)).block,(ad.add (i.toNat * 12)).off+10,none⟩=some (.int .i64 (rd_T35 xs i).f6)∧w.cell? ⟨(ad.add (i.toNat * 12)).block,(ad.add (i.toNat * 12)).off+11,none⟩=some (.int .i64 (rd_T35 xs i).f7):=by
  obtain⟨ad,c,e,_,hK,hc0⟩:=Kd.C_get h z35 i h0 h1;have hc: ∀ j u,c[j]? =some u→w.cell? (ad.add (i.toNat * 12+j))=some u:=hc0;obtain rfl:=k35_open hK;exact⟨ad,e,hc 0 _ rfl,by rw [← add_field _ _ 1 (by omega)];exact hc 1 _ rfl,by rw [← add_field _ _ 2 (by omega)];exact hc 2 _ rfl,by rw [← add_field _ _ 3 (by omega)];exact hc 3 _ rfl,by rw [← add_field _ _ 4 (by omega)];exact hc 4 _ rfl,by rw [← add_field _ _ 5 (by omega)];exact hc 5 _ rfl,by rw [← add_field _ _ 6 (by omega)];exact hc 6 _ rfl,by rw [← add_field _ _ 7 (by omega)];exact hc 7 _ rfl,by rw [← add_field _ _ 8 (by omega)];exact hc 8 _ rfl,by rw [← add_field _ _ 9 (by omega)];exact hc 9 _ rfl,by rw [← add_field _ _ 10 (by omega)];exact hc 10 _ rfl,by rw [← add_field _ _ 11 (by omega)];exact hc 11 _ rfl⟩
structure S38 where
  f0 : S35
  f1 : Int
def z38:S38:=⟨z35,(0:Int)⟩
def k38:Kd S38:=Kd.iso (Kd.pair k35 (Kd.int .i64)) (fun x:S38=>(x.f0,x.f1))
theorem k38_open {w:World}{x:S38}{cs:List Value} (h:k38.K w x cs):cs= [.int .u8 x.f0.f0,.int .i64 x.f0.f1,.int .u64 x.f0.f2,.int .i64 x.f0.f3,.bool x.f0.f4.f0,.int .u64 x.f0.f4.f1.f0,.int .u64 x.f0.f4.f1.f1,.int .i64 x.f0.f4.f2,.int .u8 x.f0.f5.f0,.int .i64 x.f0.f5.f1,.int .i64 x.f0.f6,.int .i64 x.f0.f7,.int .i64 x.f1]:=by
  obtain⟨_,_,rfl,s0,rfl⟩:=h;obtain rfl:=k35_open s0;exact rfl
theorem k38_mkM (w:World) (base:Nat) (ok:Nat→Prop) (x:S38)  :k38.M w base ok x [.int .u8 x.f0.f0,.int .i64 x.f0.f1,.int .u64 x.f0.f2,.int .i64 x.f0.f3,.bool x.f0.f4.f0,.int .u64 x.f0.f4.f1.f0,.int .u64 x.f0.f4.f1.f1,.int .i64 x.f0.f4.f2,.int .u8 x.f0.f5.f0,.int .i64 x.f0.f5.f1,.int .i64 x.f0.f6,.int .i64 x.f0.f7,.int .i64 x.f1]:=⟨[.int .u8 x.f0.f0,.int .i64 x.f0.f1,.int .u64 x.f0.f2,.int .i64 x.f0.f3,.bool x.f0.f4.f0,.int .u64 x.f0.f4.f1.f0,.int .u64 x.f0.f4.f1.f1,.int .i64 x.f0.f4.f2,.int .u8 x.f0.f5.f0,.int .i64 x.f0.f5.f1,.int .i64 x.f0.f6,.int .i64 x.f0.f7], [.int .i64 x.f1],rfl,(k35_mkM w base ok x.f0),rfl⟩
def rd_T38 (xs:List S38) (i:Int):S38:=xs.getD i.toNat z38
theorem at_T38 {w:World}{A:Option Addr}{n:Nat}{xs:List S38} (h:Kd.C k38 w A n xs) (i:Int) (h0:0≤i) (h1:i<n): ∃ ad,A=some ad∧w.cell? (ad.add (i.toNat * 13))=some (.int .u8 (rd_T38 xs i).f0.f0)∧w.cell? ⟨(ad.add (i.toNat * 13)).block,(ad.add (i.toNat * 13)).off+1,none⟩=some (.int .i64 (rd_T38 xs i).f0.f1)∧w.cell? ⟨(ad.add (i.toNat * 13)).block,(ad.add (i.toNat * 13)).off+2,none⟩=some (.int .u64 (rd_T38 xs i).f0.f2)∧w.cell? ⟨(ad.add (i.toNat * 13)).block,(ad.add (i.toNat * 13)).off+3,none⟩=some (.int .i64 (rd_T38 xs i).f0.f3)∧w.cell? ⟨(ad.add (i.toNat * 13)).block,(ad.add (i.toNat * 13)).off+4,none⟩=some (.bool (rd_T38 xs i).f0.f4.f0)∧w.cell? ⟨(ad.add (i.toNat * 13)).block,(ad.add (i.toNat * 13)).off+5,none⟩=some (.int .u64 (rd_T38 xs i).f0.f4.f1.f0)∧w.cell? ⟨(ad.add (i.toNat * 13)).block,(ad.add (i.toNat * 13)).off+6,none⟩=some (.int .u64 (rd_T38 xs i).f0.f4.f1.f1)∧w.cell? ⟨(ad.add (i.toNat * 13)).block,(ad.add (i.toNat * 13)).off+7,none⟩=some (.int .i64 (rd_T38 xs i).f0.f4.f2)∧w.cell? ⟨(ad.add (i.toNat * 13)).block,(ad.add (i.toNat * 13)).off+8,none⟩=some (.int .u8 (rd_T38 xs i).f0.f5.f0)∧w.cell? ⟨(ad.add (i.toNat * 13)).block,(ad.add (i.toNat * 13)).off+9,none⟩=some (.int .i64 (rd_T38 xs i).f0.f5.f1)∧w.cell? ⟨(ad.add (i.toNat * 13)).block,(ad.add (i.toNat * 13)).off+10,none⟩=some (.int .i64 (rd_T38 xs i).f0.f6)∧w.cell? ⟨(ad.add (i.toNat * 13)).block,(ad.add (i.toNat * 13)).off+11,none⟩=some (.int .i64 (rd_T38 xs i).f0.f7)∧w.cell? ⟨(ad.add (i.toNat * 13)).block,(ad.add (i.toNat * 13)).off+12,none⟩=some (.int .i64 (rd_T38 xs i).f1):=by
  obtain⟨ad,c,e,_,hK,hc0⟩:=Kd.C_get h z38 i h0 h1;have hc: ∀ j u,c[j]? =some u→w.cell? (ad.add (i.toNat * 13+j))=some u:=hc0;obtain rfl:=k38_open hK;exact⟨ad,e,hc 0 _ rfl,by rw [← add_field _ _ 1 (by omega)];exact hc 1 _ rfl,by rw [← add_field _ _ 2 (by omega)];exact hc 2 _ rfl,by rw [← add_field _ _ 3 (by omega)];exact hc 3 _ rfl,by rw [← add_field _ _ 4 (by omega)];exact hc 4 _ rfl,by rw [← add_field _ _ 5 (by omega)];exact hc 5 _ rfl,by rw [← add_field _ _ 6 (by omega)];exact hc 6 _ rfl,by rw [← add_field _ _ 7 (by omega)];exact hc 7 _ rfl,by rw [← add_field _ _ 8 (by omega)];exact hc 8 _ rfl,by rw [← add_field _ _ 9 (by omega)];exact hc 9 _ rfl,by rw [← add_field _ _ 10 (by omega)];exact hc 10 _ rfl,by rw [← add_field _ _ 11 (by omega)];exact hc 11 _ rfl,by rw [← add_field _ _ 12 (by omega)];exact hc 12 _ rfl⟩
end Go.Proofs.Ythkdfojmhloofaa.Q
end
section
namespace Go.Proofs.Ythkdfojmhloofaa.Q
open Go.RowKit Go.Proofs.YthkdfojmhloofaaW.PrintWords Go.Proofs.YthkdfojmhloofaaW.PrintLast Go.Proofs.YthkdfojmhloofaaW.PrintMore
attribute [local go_sem] max2_int min2_int max_two min_two max_three min_three max_four min_four   -- for this text's walks alone
set_option linter.unusedVariables false
set_option linter.unusedSimpArgs false
theorem eqA28 (d:Nat) (w:World) (x0 y0:Int) (x1 y1:Int):
    (Op.equalIn (d+2) 28 (.agg #[.int .u64 x0,.int .u64 x1]) (.agg #[.int .u64 y0,.int .u64 y1])).run Try.prog w= .ok (x0==y0&&(x1==y1)) w:=by
  refine eqA_of Try.underlying28 (by kernel_rfl) ?_;refine eqf_cons (by rfl) (by go_simp;rfl) (by go_simp;rfl) (by go_simp) ?_;exact eqf_last (by rfl) (by go_simp;rfl) (by go_simp;rfl) (by go_simp)
theorem eqA30 (d:Nat) (w:World) (x0 y0:Bool) (x1 y1:Int) (x2 y2:Int) (x3 y3:Int):
    (Op.equalIn (d+3) 30 (.agg #[.bool x0,.int .u64 x1,.int .u64 x2,.int .i64 x3]) (.agg #[.bool y0,.int .u64 y1,.int .u64 y2,.int .i64 y3])).run Try.prog w= .ok (x0==y0&&((x1==y1&&(x2==y2))&&(x3==y3))) w:=by
  refine eqA_of Try.underlying30 (by kernel_rfl) ?_;refine eqf_cons (by rfl) (by go_simp;rfl) (by go_simp;rfl) (by go_simp) ?_;refine eqf_cons (by rfl) (by go_simp) (by go_simp) (eqA28 (d+0) w _ _ _ _) ?_;exact eqf_last (by rfl) (by go_simp;rfl) (by go_simp;rfl) (by go_simp)
theorem eqA33 (d:Nat) (w:World) (x0 y0:Int) (x1 y1:Int):
    (Op.equalIn (d+2) 33 (.agg #[.int .u8 x0,.int .i64 x1]) (.agg #[.int .u8 y0,.int .i64 y1])).run Try.prog w= .ok (x0==y0&&(x1==y1)) w:=by
  refine eqA_of Try.underlying33 (by kernel_rfl) ?_;refine eqf_cons (by rfl) (by go_simp;rfl) (by go_simp;rfl) (by go_simp) ?_;exact eqf_last (by rfl) (by go_simp;rfl) (by go_simp;rfl) (by go_simp)
theorem eqA35 (d:Nat) (w:World) (x0 y0:Int) (x1 y1:Int) (x2 y2:Int) (x3 y3:Int) (x4 y4:Bool) (x5 y5:Int) (x6 y6:Int) (x7 y7:Int) (x8 y8:Int) (x9 y9:Int) (x10 y10:Int) (x11 y11:Int):
    (Op.equalIn (d+4) 35 (.agg #[.int .u8 x0,.int .i64 x1,.int .u64 x2,.int .i64 x3,.bool x4,.int .u64 x5,.int .u64 x6,.int .i64 x7,.int .u8 x8,.int .i64 x9,.int .i64 x10,.int .i64 x11]) (.agg #[.int .u8 y0,.int .i64 y1,.int .u64 y2,.int .i64 y3,.bool y4,.int .u64 y5,.int .u64 y6,.int .i64 y7,.int .u8 y8,.int .i64 y9,.int .i64 y10,.int .i64 y11])).run Try.prog w= .ok (x0==y0&&(x1==y1&&(x2==y2&&(x3==y3&&((x4==y4&&((x5==y5&&(x6==y6))&&(x7==y7)))&&((x8==y8&&(x9==y9))&&(x10==y10&&(x11==y11)))))))) w:=by
  refine eqA_of Try.underlying35 (by kernel_rfl) ?_;refine eqf_cons (by rfl) (by go_simp;rfl) (by go_simp;rfl) (by go_simp) ?_;refine eqf_cons (by rfl) (by go_simp;rfl) (by go_simp;rfl) (by go_simp) ?_;refine eqf_cons (by rfl) (by go_simp;rfl) (by go_simp;rfl) (by go_simp) ?_;refine eqf_cons (by rfl) (by go_simp;rfl) (by go_simp;rfl) (by go_simp) ?_;refine eqf_cons (by rfl) (by go_simp) (by go_simp) (eqA30 (d+0) w _ _ _ _ _ _ _ _) ?_;refine eqf_cons (by rfl) (by go_simp) (by go_simp) (eqA33 (d+1) w _ _ _ _) ?_;refine eqf_cons (by rfl) (by go_simp;rfl) (by go_simp;rfl) (by go_simp) ?_;exact eqf_last (by rfl) (by go_simp;rfl) (by go_simp;rfl) (by go_simp)
end Go.Proofs.Ythkdfojmhloofaa.Q
end
section
namespace Go.Proofs.Ythkdfojmhloofaa.Q
open Go.RowKit Go.Proofs.YthkdfojmhloofaaW.PrintWords Go.Proofs.YthkdfojmhloofaaW.PrintLast Go.Proofs.YthkdfojmhloofaaW.PrintMore
attribute [local go_sem] max2_int min2_int max_two min_two max_three min_three max_four min_four   -- for this text's walks alone
set_option linter.unusedVariables false
set_option linter.unusedSimpArgs false
theorem eqA38 (d:Nat) (w:World) (x0 y0:Int) (x1 y1:Int) (x2 y2:Int) (x3 y3:Int) (x4 y4:Bool) (x5 y5:Int) (x6 y6:Int) (x7 y7:Int) (x8 y8:Int) (x9 y9:Int) (x10 y10:Int) (x11 y11:Int) (x12 y12:Int):
    (Op.equalIn (d+5) 38 (.agg #[.int .u8 x0,.int .i64 x1,.int .u64 x2,.int .i64 x3,.bool x4,.int .u64 x5,.int .u64 x6,.int .i64 x7,.int .u8 x8,.int .i64 x9,.int .i64 x10,.int .i64 x11,.int .i64 x12]) (.agg #[.int .u8 y0,.int .i64 y1,.int .u64 y2,.int .i64 y3,.bool y4,.int .u64 y5,.int .u64 y6,.int .i64 y7,.int .u8 y8,.int .i64 y9,.int .i64 y10,.int .i64 y11,.int .i64 y12])).run Try.prog w= .ok ((x0==y0&&(x1==y1&&(x2==y2&&(x3==y3&&((x4==y4&&((x5==y5&&(x6==y6))&&(x7==y7)))&&((x8==y8&&(x9==y9))&&(x10==y10&&(x11==y11))))))))&&(x12==y12)) w:=by
  refine eqA_of Try.underlying38 (by kernel_rfl) ?_;refine eqf_cons (by rfl) (by go_simp) (by go_simp) (eqA35 (d+0) w _ _ _ _ _ _ _ _ _ _ _ _ _ _ _ _ _ _ _ _ _ _ _ _) ?_;exact eqf_last (by rfl) (by go_simp;rfl) (by go_simp;rfl) (by go_simp)
end Go.Proofs.Ythkdfojmhloofaa.Q
end
section
namespace Go.Proofs.Ythkdfojmhloofaa.Q
open Go.RowKit Go.Proofs.YthkdfojmhloofaaW.PrintWords Go.Proofs.YthkdfojmhloofaaW.PrintLast Go.Proofs.YthkdfojmhloofaaW.PrintMore
attribute [local go_sem] max2_int min2_int max_two min_two max_three min_three max_four min_four   -- for this text's walks alone
set_option linter.unusedVariables false
set_option linter.unusedSimpArgs false
def addr_Wide.f (a0:Bool):Option (Int):=if a0=true then (some 128) else (some 32)
set_option maxHeartbeats 8000000 in
set_option maxRecDepth 100000 in
theorem addr_Wide.calls (a0:Bool) (r:Int) (w:World) (h:addr_Wide.f a0=some r):
  Calls Try.prog 58 #[.bool a0] w fun e w'=>e= .returned (.int .i64 r)∧Drawn0 w w':=by
 have H:(if a0=true then (some 128) else (some 32))=some r:=h;clear h;by_cases c2:a0=true
 ·subst c2;have H1:(some 128)=some r:=by rw [if_pos rfl]at H;exact H
  clear H;have H:=H1;clear H1;obtain rfl:=Option.some.inj H;go_enter Try.func58,Try.ntmps58;go_wp2;go_ret;exact⟨by first|rfl|(simp;done)|(simp [*];done),by repeat (first|exact Drawn0.refl _|apply Drawn0.step)⟩
 ·replace c2:=Bool.eq_false_iff.mpr c2;subst c2;have H1:(some 32)=some r:=by rw [if_neg (show ¬ (false=true) by decide)]at H;exact H
  clear H;have H:=H1;clear H1;obtain rfl:=Option.some.inj H;go_enter Try.func58,Try.ntmps58;go_wp2;go_ret;exact⟨by first|rfl|(simp;done)|(simp [*];done),by repeat (first|exact Drawn0.refl _|apply Drawn0.step)⟩
def addr_Right.f (a0:Bool) (a1_0:Int) (a1_1:Int):Option (Bool):=if a0=true then (some true) else (if a1_0=0 then (some ((a1_1 / 4294967296)==0)) else (some false))
set_option maxHeartbeats 8000000 in
set_option maxRecDepth 100000 in
theorem addr_Right.calls (a0:Bool) (a1_0:Int) (a1_1:Int) (r:Bool) (w:World) (h:addr_Right.f a0 a1_0 a1_1=some r):
  Calls Try.prog 72 #[.bool a0,.agg #[.int .u64 a1_0,.int .u64 a1_1]] w fun e w'=>e= .returned (.bool r)∧Below w.heap.size w w':=by
 have hu28:=Try.underlying28;have HB:=Ax (Below.refl w.heap.size w);have H:(if a0=true then (some true) else (if a1_0=0 then (some ((a1_1 / 4294967296)==0)) else (some false)))=some r:=h;clear h;by_cases c3:a0=true
 ·subst c3;have H1:(some true)=some r:=by rw [if_pos rfl]at H;exact H
  clear H;have H:=H1;clear H1;obtain rfl:=Option.some.inj H;go_enter Try.func72,Try.ntmps72;go_wp2_with (first|((with_reducible refine gate_dst (N:=3) rfl ?_);refine box_event ?hg (N:=3) ?hd (cs:= #[.int .u64 a1_0,.int .u64 a1_1]) (t:=28) ?hr ?_;(case hd=>rfl);(case hg=>rfl);(case hr=>first|(go_simp;done)|(go_simp;rfl));intro gb101 hg w4 hbox hb;have n0_:=Bs0 HB hb;have n1_:=Ax (hbox);have n2_:=Gw0 HB hg;have n3_:=Gw0 HB hg;clear HB;have HB:=n0_;have BK101:=n1_;have GW101:=n2_;have GE101:=n3_;clear n0_ n1_ n2_ n3_;clear hb hbox hg));go_ret;exact⟨eS,bw1 HB.out GE101.out⟩
 ·replace c3:=Bool.eq_false_iff.mpr c3;subst c3;have H1:(if a1_0=0 then (some ((a1_1 / 4294967296)==0)) else (some false))=some r:=by rw [if_neg (show ¬ (false=true) by decide)]at H;exact H
  clear H;have H:=H1;clear H1;by_cases c5:a1_0=0;·rw [if_pos c5]at H;have c5b0:(a1_0==0)=true:=beq_iff_eq.mpr c5;have c5b1:(a1_0 !=0)=false:=bne_eq_false_iff_eq.mpr c5;clear c5;obtain rfl:=Option.some.inj H;go_enter Try.func72,Try.ntmps72;go_wp2_with (first|((with_reducible refine gate_dst (N:=3) rfl ?_);refine box_event ?hg (N:=3) ?hd (cs:= #[.int .u64 a1_0,.int .u64 a1_1]) (t:=28) ?hr ?_;(case hd=>rfl);(case hg=>rfl);(case hr=>first|(go_simp;done)|(go_simp;rfl));intro gb101 hg w6 hbox hb;have n0_:=Bs0 HB hb;have n1_:=Ax (hbox);have n2_:=Gw0 HB hg;have n3_:=Gw0 HB hg;clear HB;have HB:=n0_;have BK101:=n1_;have GW101:=n2_;have GE101:=n3_;clear n0_ n1_ n2_ n3_;clear hb hbox hg;obtain⟨hcz7_0,hcz7_1,hfz7_0,hfz7_1⟩:=cl2 BK101));go_ret;exact⟨eS,bw1 HB.out GE101.out⟩
  ·rw [if_neg c5]at H;have c5b0:(a1_0==0)=false:=beq_eq_false_iff_ne.mpr c5;have c5b1:(a1_0 !=0)=true:=bne_iff_ne.mpr c5;obtain rfl:=Option.some.inj H;go_enter Try.func72,Try.ntmps72;go_wp2_with (first|((with_reducible refine gate_dst (N:=3) rfl ?_);refine box_event ?hg (N:=3) ?hd (cs:= #[.int .u64 a1_0,.int .u64 a1_1]) (t:=28) ?hr ?_;(case hd=>rfl);(case hg=>rfl);(case hr=>first|(go_simp;done)|(go_simp;rfl));intro gb101 hg w8 hbox hb;have n0_:=Bs0 HB hb;have n1_:=Ax (hbox);have n2_:=Gw0 HB hg;have n3_:=Gw0 HB hg;clear HB;have HB:=n0_;have BK101:=n1_;have GW101:=n2_;have GE101:=n3_;clear n0_ n1_ n2_ n3_;clear hb hbox hg;obtain⟨hcz9_0,hcz9_1,hfz9_0,hfz9_1⟩:=cl2 BK101));go_ret;exact⟨eS,bw1 HB.out GE101.out⟩
def addr_below.f (a0:Int):Option (Int × Int):=if a0 ≥ 128 then (some (18446744073709551615,18446744073709551615)) else (if a0 ≥ 64 then (if 0≤(wrap64 (a0 - 64)) then (some (IntKind.u64.wrap ((shl .u64 1 (wrap64 (a0 - 64))) - 1),18446744073709551615)) else (none)) else (if 0≤a0 then (some (0,IntKind.u64.wrap ((shl .u64 1 a0) - 1))) else (none)))
set_option maxHeartbeats 8000000 in
set_option maxRecDepth 100000 in
theorem addr_below.calls (a0:Int) (r1:Int) (r2:Int) (w:World) (h:addr_below.f a0=some (r1,r2)):
  Calls Try.prog 78 #[.int .i64 a0] w fun e w'=>e= .returned (.agg #[.int .u64 r1,.int .u64 r2])∧Below w.heap.size w w':=by
 have hu28:=Try.underlying28;have HB:=Ax (Below.refl w.heap.size w);have H:(if a0 ≥ 128 then (some (18446744073709551615,18446744073709551615)) else (if a0 ≥ 64 then (if 0≤(wrap64 (a0 - 64)) then (some (IntKind.u64.wrap ((shl .u64 1 (wrap64 (a0 - 64))) - 1),18446744073709551615)) else (none)) else (if 0≤a0 then (some (0,IntKind.u64.wrap ((shl .u64 1 a0) - 1))) else (none))))=some (r1,r2):=h;clear h;by_cases c2:a0 ≥ 128;·rw [if_pos c2]at H;have c2b0:decide (128≤a0)=true:=decide_eq_true c2;clear c2;simp only[Option.some.injEq,Prod.mk.injEq]at H;obtain⟨rfl,rfl⟩:=H;go_enter Try.func78,Try.ntmps78;go_wp2_with (first|((with_reducible refine gate_dst (N:=2) rfl ?_);refine box_event ?hg (N:=2) ?hd (cs:= #[.int .u64 0,.int .u64 0]) (t:=28) ?hr ?_;(case hd=>rfl);(case hg=>rfl);(case hr=>first|(go_simp;done)|(go_simp;rfl));intro gb102 hg w3 hbox hb;have n0_:=Bs0 HB hb;have n1_:=Ax (hbox);have n2_:=Gw0 HB hg;have n3_:=Gw0 HB hg;clear HB;have HB:=n0_;have BK102:=n1_;have GW102:=n2_;have GE102:=n3_;clear n0_ n1_ n2_ n3_;clear hb hbox hg;obtain⟨hcz4_0,hcz4_1,hfz4_0,hfz4_1⟩:=cl2 BK102));refine bodyPost_ret (results_cell_row rfl _ _ gb102 28 #[.int .u64 18446744073709551615,.int .u64 18446744073709551615] (0,0) _ rfl (gB BK102.out) Try.underlying28 rfl (by kernel_rfl)) rfl ?_;exact⟨eS,bw1 HB.out GE102.out⟩
 ·rw [if_neg c2]at H;have c2b0:decide (128≤a0)=false:=decide_eq_false c2;clear c2;by_cases c5:a0 ≥ 64
  ·rw [if_pos c5]at H;have c5b0:decide (64≤a0)=true:=decide_eq_true c5;clear c5;obtain⟨ji6,hji6⟩: ∃ j_:Int,(wrap64 (a0 - 64))=j_:=⟨_,rfl⟩;replace H:(if 0≤(ji6) then (some (IntKind.u64.wrap ((shl .u64 1 (ji6)) - 1),18446744073709551615)) else (none))=some (r1,r2):=by first|(rw [hji6]at H;exact H)|(simp only[hji6]at H ⊢;exact H)
   have hji6w:(IntKind.i64.wrap (a0 - 64))=ji6:=(i64_w _).trans hji6;by_cases c7:0≤(ji6)
   ·rw [if_pos c7]at H;have c7b0:=eq_true c7;have c7b1:decide (0≤(ji6))=true:=decide_eq_true c7;clear c7;obtain⟨ji8,hji8⟩: ∃ j_:Int,(shl .u64 1 (ji6))=j_:=⟨_,rfl⟩;replace H:(some (IntKind.u64.wrap ((ji8) - 1),18446744073709551615))=some (r1,r2):=by first|(rw [hji8]at H;exact H)|(simp only[hji8]at H ⊢;exact H)
    have hji8_:(IntKind.u64.wrap (1 * 2 ^ min (ji6).toNat 64))=ji8:=hji8;have hji8z:(ji6)≤64→(IntKind.u64.wrap (1 * 2 ^ (ji6).toNat))=ji8:=shl_small hji8;have hji8u:(IntKind.u64.wrap (2 ^ min (ji6).toNat 64))=ji8:=by have h_:=hji8_;rw [Int.one_mul]at h_;exact h_
    have hji8v:(ji6)≤64→(IntKind.u64.wrap (2 ^ (ji6).toNat))=ji8:=fun hle_=>by have h_:=hji8z hle_;rw [Int.one_mul]at h_;exact h_
    simp only[Option.some.injEq,Prod.mk.injEq]at H;obtain⟨rfl,rfl⟩:=H;go_enter Try.func78,Try.ntmps78;go_wp2_with (first|((with_reducible refine gate_dst (N:=2) rfl ?_);refine box_event ?hg (N:=2) ?hd (cs:= #[.int .u64 0,.int .u64 0]) (t:=28) ?hr ?_;(case hd=>rfl);(case hg=>rfl);(case hr=>first|(go_simp;done)|(go_simp;rfl));intro gb102 hg w9 hbox hb;have n0_:=Bs0 HB hb;have n1_:=Ax (hbox);have n2_:=Gw0 HB hg;have n3_:=Gw0 HB hg;clear HB;have HB:=n0_;have BK102:=n1_;have GW102:=n2_;have GE102:=n3_;clear n0_ n1_ n2_ n3_;clear hb hbox hg;obtain⟨hcz10_0,hcz10_1,hfz10_0,hfz10_1⟩:=cl2 BK102));refine bodyPost_ret (results_cell_row rfl _ _ gb102 28 #[.int .u64 (IntKind.u64.wrap ((ji8) - 1)),.int .u64 18446744073709551615] (0,0) _ rfl (gB BK102.out) Try.underlying28 rfl (by kernel_rfl)) rfl ?_;exact⟨by first|rfl|(simp [errW_none,errW_some] <;> rfl)|(simp only[← hji6, ← hji8];first|rfl|(simp [errW_none,errW_some] <;> rfl))|(simp [*,errW_none,errW_some] <;> rfl),bw1 HB.out GE102.out⟩
   ·rw [if_neg c7]at H;exact absurd H (by simp)
  ·rw [if_neg c5]at H;have c5b0:decide (64≤a0)=false:=decide_eq_false c5;clear c5;by_cases c11:0≤a0
   ·rw [if_pos c11]at H;have c11b0:=eq_true c11;have c11b1:decide (0≤a0)=true:=decide_eq_true c11;clear c11;obtain⟨ji12,hji12⟩: ∃ j_:Int,(shl .u64 1 a0)=j_:=⟨_,rfl⟩;replace H:(some (0,IntKind.u64.wrap ((ji12) - 1)))=some (r1,r2):=by first|(rw [hji12]at H;exact H)|(simp only[hji12]at H ⊢;exact H)
    have hji12_:(IntKind.u64.wrap (1 * 2 ^ min a0.toNat 64))=ji12:=hji12;have hji12z:a0≤64→(IntKind.u64.wrap (1 * 2 ^ a0.toNat))=ji12:=shl_small hji12;have hji12u:(IntKind.u64.wrap (2 ^ min a0.toNat 64))=ji12:=by have h_:=hji12_;rw [Int.one_mul]at h_;exact h_
    have hji12v:a0≤64→(IntKind.u64.wrap (2 ^ a0.toNat))=ji12:=fun hle_=>by have h_:=hji12z hle_;rw [Int.one_mul]at h_;exact h_
    simp only[Option.some.injEq,Prod.mk.injEq]at H;obtain⟨rfl,rfl⟩:=H;go_enter Try.func78,Try.ntmps78;go_wp2_with (first|((with_reducible refine gate_dst (N:=2) rfl ?_);refine box_event ?hg (N:=2) ?hd (cs:= #[.int .u64 0,.int .u64 0]) (t:=28) ?hr ?_;(case hd=>rfl);(case hg=>rfl);(case hr=>first|(go_simp;done)|(go_simp;rfl));intro gb102 hg w13 hbox hb;have n0_:=Bs0 HB hb;have n1_:=Ax (hbox);have n2_:=Gw0 HB hg;have n3_:=Gw0 HB hg;clear HB;have HB:=n0_;have BK102:=n1_;have GW102:=n2_;have GE102:=n3_;clear n0_ n1_ n2_ n3_;clear hb hbox hg;obtain⟨hcz14_0,hcz14_1,hfz14_0,hfz14_1⟩:=cl2 BK102));refine bodyPost_ret (results_cell_row rfl _ _ gb102 28 #[.int .u64 0,.int .u64 (IntKind.u64.wrap ((ji12) - 1))] (0,0) _ rfl (gB BK102.out) Try.underlying28 rfl (by kernel_rfl)) rfl ?_;exact⟨by first|rfl|(simp [errW_none,errW_some] <;> rfl)|(simp only[← hji12];first|rfl|(simp [errW_none,errW_some] <;> rfl))|(simp [*,errW_none,errW_some] <;> rfl),bw1 HB.out GE102.out⟩
   ·rw [if_neg c11]at H;exact absurd H (by simp)
def addr_host.f (a0_0:Bool) (a0_1:Int) (a0_2:Int) (a0_3:Int):Option (Int × Int):=(addr_Wide.f a0_0).bind fun t105=>((addr_below.f (wrap64 (t105 - a0_3))).bind fun bt106=>(some (bt106.1,bt106.2)))
def addr_host.T1:Bool × List (List Nat × List Nat):=(true, [([], []),([0], [0]),([1], [1]),([], []),([3], [3]),([2,4], [2,4]),([5,2], [5]),([6,6,0,1,2,3,4,5,6], [6])])
def addr_host.B1:List Nat:= [0,1,3,0,8,31,63,127]
theorem addr_host.tab1:rtab .any (opsOf Try.f73 1)=addr_host.T1:=by kernel_rfl
theorem addr_host.bits1:waitsOk addr_host.T1.2 addr_host.B1=true:=by kernel_rfl
set_option maxHeartbeats 8000000 in
set_option maxRecDepth 100000 in
theorem addr_host.calls (a0_0:Bool) (a0_1:Int) (a0_2:Int) (a0_3:Int) (r1:Int) (r2:Int) (w:World) (h:addr_host.f a0_0 a0_1 a0_2 a0_3=some (r1,r2)):
  Calls Try.prog 73 #[.agg #[.bool a0_0,.int .u64 a0_1,.int .u64 a0_2,.int .i64 a0_3]] w fun e w'=>e= .returned (.agg #[.int .u64 r1,.int .u64 r2])∧Below w.heap.size w w':=by
 have hu30:=Try.underlying30;have hu28:=Try.underlying28;have HB:=Ax (Below.refl w.heap.size w);have H:((addr_Wide.f a0_0).bind fun t105=>((addr_below.f (wrap64 (t105 - a0_3))).bind fun bt106=>(some (bt106.1,bt106.2))))=some (r1,r2):=h;clear h;replace H:=Option.bind_eq_some_iff.mp H;obtain⟨t105,A20,H⟩:=H;replace H:((addr_below.f (wrap64 (t105 - a0_3))).bind fun bt106=>(some (bt106.1,bt106.2)))=some (r1,r2):=H;have A2:=Ax A20;clear A20;replace H:=Option.bind_eq_some_iff.mp H;obtain⟨⟨t106,t107⟩,A30,H⟩:=H;replace H:(some (t106,t107))=some (r1,r2):=H;have A3:=Ax A30;clear A30;simp only[Option.some.injEq,Prod.mk.injEq]at H;obtain⟨rfl,rfl⟩:=H;go_enter Try.func73,Try.ntmps73;try go_wp2_with (first|((with_reducible refine gate_dst (N:=1) rfl ?_);refine box_event ?hg (N:=1) ?hd (cs:= #[.bool a0_0,.int .u64 a0_1,.int .u64 a0_2,.int .i64 a0_3]) (t:=30) ?hr ?_;(case hd=>rfl);(case hg=>rfl);(case hr=>first|(go_simp;done)|(go_simp;rfl));intro gb103 hg w4 hbox hb;have n0_:=Bs0 HB hb;have n1_:=Ax (hbox);have n2_:=Gw0 HB hg;have n3_:=Gw0 HB hg;clear HB;have HB:=n0_;have BK103:=n1_;have GW103:=n2_;have GE103:=n3_;clear n0_ n1_ n2_ n3_;clear hb hbox hg)|((with_reducible refine gate_dst (N:=2) rfl ?_);refine box_event ?hg (N:=2) ?hd (cs:= #[.int .u64 0,.int .u64 0]) (t:=28) ?hr ?_;(case hd=>rfl);(case hg=>rfl);(case hr=>first|(go_simp;done)|(go_simp;rfl));intro gb104 hg w5 hbox hb;have n0_:=Bx0 BK103 hb;have n1_:=Bs1 HB hb GE103.out;have n2_:=Ax (hbox);have n3_:=Gw1 HB hg GE103.out;have n4_:=Gw1 HB hg GE103.out;have n5_:=Nl0 BK103 hg;have n6_:=Nr0 BK103 hg;clear BK103;clear HB;have BK103:=n0_;have HB:=n1_;have BK104:=n2_;have GW104:=n3_;have GE104:=n4_;have NB103_104:=n5_;have NB104_103:=n6_;clear n0_ n1_ n2_ n3_ n4_ n5_ n6_;clear hb hbox hg))
 replace BK103:=Ax (blk_drew BK103.out);replace BK104:=Ax (blk_drew BK104.out);replace HB:=Ax (below_drew1 HB.out);refine start_ (n:=8) (S:=fun w'=>w'.cell? ⟨gb103,0,none⟩=some (.bool a0_0)∧w'.cell? ⟨gb103,1,none⟩=some (.int .u64 a0_1)∧w'.cell? ⟨gb103,2,none⟩=some (.int .u64 a0_2)∧w'.cell? ⟨gb103,3,none⟩=some (.int .i64 a0_3)) (ds:= []) #[fa,fa,fa,fa,fa,fa,fa,fa] (by kernel_rfl) rfl rfl ⟨(blk_cell BK103.out 0).trans rfl,(blk_cell BK103.out 1).trans rfl,(blk_cell BK103.out 2).trans rfl,(blk_cell BK103.out 3).trans rfl⟩ (fun hHeld=>?_);refine with_tabW addr_host.tab1 addr_host.bits1 (fun HT_ HW_=>?_);generalize w5.drew=w6 at BK103 BK104 HB hHeld ⊢;refine pz 0 3 #[tr,fa,fa,fa,fa,fa,fa,fa] HT_.out ?_
 refine pz 3 6 #[tr,fa,fa,tr,fa,fa,fa,fa] HT_.out ?_
 refine take_ (i:=1) (N:=some 4) (v:=?_) (a':=?_) #[tr,tr,fa,tr,fa,fa,fa,fa] rfl rfl (take_ofW HT_.out HW_.out (by kernel_rfl)) (fun _ _ _ h=>h) (Or.inl ⟨by rfl,?_⟩) hHeld ?_ ?_;rotate_left
 ·rintro w' ⟨s0,s1,s2,s3⟩
  go_simp;with_reducible rfl
 rotate_left;·simp only[sP];rfl
 refine take_ (i:=4) (N:=some 7) (v:=?_) (a':=?_) #[tr,tr,fa,tr,tr,fa,fa,fa] rfl rfl (take_ofW HT_.out HW_.out (by kernel_rfl)) (fun _ _ _ h=>h) (Or.inl ⟨by rfl,?_⟩) hHeld ?_ ?_;rotate_left
 ·rintro w' ⟨s0,s1,s2,s3⟩
  go_simp;with_reducible rfl
 rotate_left;·simp only[sP];rfl
 refine one_ (i:=2) (N:=some 5) #[tr,tr,tr,tr,tr,fa,fa,fa] rfl rfl (one_of HT_.out (by kernel_rfl)) (by decide) (fun K hK=>?_);refine goes_ Try.func58 (by kernel_rfl) rfl #[.bool a0_0] (by rfl) rfl rfl gS ?_;with_reducible refine (addr_Wide.calls a0_0 t105 _ A2.out).mono ?_
 rintro e w' ⟨rfl,⟨nd,rfl⟩⟩
 refine⟨_,rfl,?_⟩;refine hK.out _ _ ⟨(blk_cell BK103.out 0).trans rfl,(blk_cell BK103.out 1).trans rfl,(blk_cell BK103.out 2).trans rfl,(blk_cell BK103.out 3).trans rfl⟩ (fun hHeld=>?_);clear hK K;refine norm_ (a':=?_) ?_ ?_;rotate_left
 ·show Act.put _ (some 5) _=_
  simp only[sP];rfl
 refine pz 5 8 #[tr,tr,tr,tr,tr,tr,fa,fa] HT_.out ?_
 refine one_ (i:=6) (N:=some 9) #[tr,tr,tr,tr,tr,tr,tr,fa] rfl rfl (one_of HT_.out (by kernel_rfl)) (by decide) (fun K hK=>?_);refine goes_ Try.func78 (by kernel_rfl) rfl #[.int .i64 (wrap64 (t105 - a0_3))] (by rfl) rfl rfl gS ?_;with_reducible refine (addr_below.calls (wrap64 (t105 - a0_3)) t106 t107 _ A3.out).mono ?_
 rintro e w7 ⟨rfl,hb⟩
 refine⟨_,rfl,?_⟩;replace BK103:=Bx0 BK103 hb;replace BK104:=Bx0 BK104 hb;replace HB:=Bs2 HB hb GE103.out GE104.out
 (try clear hb)
 refine hK.out _ _ ⟨(blk_cell BK103.out 0).trans rfl,(blk_cell BK103.out 1).trans rfl,(blk_cell BK103.out 2).trans rfl,(blk_cell BK103.out 3).trans rfl⟩ (fun hHeld=>?_);clear hK K;refine norm_ (a':=?_) ?_ ?_;rotate_left
 ·show Act.put _ (some 9) _=_
  simp only[sP];rfl
 refine one_ (i:=7) (N:=none) #[tr,tr,tr,tr,tr,tr,tr,tr] rfl rfl (one_of HT_.out (by kernel_rfl)) (by decide) (fun K hK=>?_);have hs8:w7.cell? ⟨gb104,0,none⟩=some (.int .u64 0):=(blk_cell BK104.out 0).trans rfl;have hfs8:=blk_frozen BK104.out 0;have hns8_0:=NB103_104.out;have hms8_0:=NB104_103.out;have hs9:w7.cell? ⟨gb104,1,none⟩=some (.int .u64 0):=(blk_cell BK104.out 1).trans rfl;have hfs9:=blk_frozen BK104.out 1;have hns9_0:=NB103_104.out;have hms9_0:=NB104_103.out;refine skip_ (w1:=?_) (by rfl) rfl ?_ ?_;rotate_left;·go_simp;rfl
 refine hK.out _ _ ⟨((cell_far (p:=⟨gb104,_,none⟩) NB103_104.out _).trans (((cell_far (p:=⟨gb104,_,none⟩) NB103_104.out _).trans (hHeld.1)))),((cell_far (p:=⟨gb104,_,none⟩) NB103_104.out _).trans (((cell_far (p:=⟨gb104,_,none⟩) NB103_104.out _).trans (hHeld.2.1)))),((cell_far (p:=⟨gb104,_,none⟩) NB103_104.out _).trans (((cell_far (p:=⟨gb104,_,none⟩) NB103_104.out _).trans (hHeld.2.2.1)))),((cell_far (p:=⟨gb104,_,none⟩) NB103_104.out _).trans (((cell_far (p:=⟨gb104,_,none⟩) NB103_104.out _).trans (hHeld.2.2.2))))⟩ (fun hHeld=>?_);clear hK K;refine done_ (done_of HT_.out (by kernel_rfl)) ?_;try go_wp2
 refine bodyPost_ret (results_cell_row rfl _ _ gb104 28 #[.int .u64 t106,.int .u64 t107] (0,0) _ rfl (gB BK104.out) Try.underlying28 rfl (by kernel_rfl)) rfl ?_;exact⟨eS,bw2 HB.out GE103.out GE104.out⟩
def addr_Check.j0 : Nat → Bool → Bool → Int → Int → Int → Option (Int)
 | 0, _, _, _, _, _ => none
 | k + 1, x22, x109000, x109001, x109002, x109003 => if x22 = true then (some 2) else ((addr_host.f x109000 x109001 x109002 x109003).bind fun bt111 => (if (Go.bits .or .u64 (Go.bits .and .u64 x109001 bt111.1) (Go.bits .and .u64 x109002 bt111.2)) = 0 then (some 0) else (some 2)))
def addr_Check.f (k:Nat) (a0_0:Bool) (a0_1:Int) (a0_2:Int) (a0_3:Int):Option (Int):=if a0_3<0 then (addr_Check.j0 k true a0_0 a0_1 a0_2 a0_3) else ((addr_Wide.f a0_0).bind fun t109=>(if a0_3 > t109 then (addr_Check.j0 k true a0_0 a0_1 a0_2 a0_3) else ((addr_Right.f a0_0 a0_1 a0_2).bind fun t110=>(addr_Check.j0 k (!t110) a0_0 a0_1 a0_2 a0_3))))
theorem addr_Check.mono_l: ∀ k,(∀ y0 y1 y2 y3 y4,LeO (addr_Check.j0 k y0 y1 y2 y3 y4) (addr_Check.j0 (k+1) y0 y1 y2 y3 y4))
 |0=>fun _ _ _ _ _ r h=>by simp [addr_Check.j0]at h
 |k+1=>by
  have ih0:=addr_Check.mono_l k
  ·intro y0 y1 y2 y3 y4;unfold addr_Check.j0
   repeat' first
   |(with_reducible exact ih0 _ _ _ _ _)
   |(with_reducible exact LeO.refl _)
   |(with_reducible exact LeO.none _)
   |(with_reducible refine LeO.ite ?_ ?_)
   |(with_reducible refine LeO.bind ?_ (fun _=>?_))
   |exact ih0 _ _ _ _ _
   |exact LeO.none _
   |refine LeO.ite ?_ ?_
   |refine LeO.bind ?_ (fun _=>?_)
theorem addr_Check.mono: ∀ a0 a1 a2 a3 k,LeO (addr_Check.f k a0 a1 a2 a3) (addr_Check.f (k+1) a0 a1 a2 a3):=by
 intro a0 a1 a2 a3 k;have ih0:=addr_Check.mono_l k;unfold addr_Check.f
 repeat' first
   | (with_reducible exact ih0 _ _ _ _ _)
   | (with_reducible exact LeO.refl _)
   | (with_reducible exact LeO.none _)
   | (with_reducible refine LeO.ite ?_ ?_)
   | (with_reducible refine LeO.bind ?_ (fun _ => ?_))
   | exact ih0 _ _ _ _ _
   | exact LeO.none _
   | refine LeO.ite ?_ ?_
   | refine LeO.bind ?_ (fun _ => ?_)
def addr_Check.T1:Bool × List (List Nat × List Nat):=(true, [([], []),([0], [0]),([1], [1]),([2], [2]),([3], [3]),([4,3], [3,4]),([3], [3]),([6,3], [3,6]),([7,3,3], [3,7]),([5,8,3], [3,5,8]),([3,9], [3,9]),([10,8], [10]),([11], [11]),([12,11], [11,12]),([11], [11]),([14,11], [11,14]),([13,15,11,11], [11,13,15]),([16,11], [11,16]),([11,17], [11,17])])
def addr_Check.B1:List Nat:= [0,1,3,7,15,31,15,79,207,511,1023,2047,4095,8191,4095,20479,65535,131071,262143]
theorem addr_Check.tab1:rtab .any (opsOf Try.f59 1)=addr_Check.T1:=by kernel_rfl
theorem addr_Check.bits1:waitsOk addr_Check.T1.2 addr_Check.B1=true:=by kernel_rfl
set_option maxHeartbeats 8000000 in
set_option maxRecDepth 100000 in
theorem addr_Check.calls (k:Nat) (a0_0:Bool) (a0_1:Int) (a0_2:Int) (a0_3:Int) (r:Int) (w:World) (h:addr_Check.f k a0_0 a0_1 a0_2 a0_3=some r):
  Calls Try.prog 59 #[.agg #[.bool a0_0,.int .u64 a0_1,.int .u64 a0_2,.int .i64 a0_3]] w fun e w'=>e= .returned (.int .i64 r)∧Below w.heap.size w w':=by
 have hu30:=Try.underlying30;have hu28:=Try.underlying28;have HB:=Ax (Below.refl w.heap.size w);have H:(if a0_3<0 then (addr_Check.j0 k true a0_0 a0_1 a0_2 a0_3) else ((addr_Wide.f a0_0).bind fun t109=>(if a0_3 > t109 then (addr_Check.j0 k true a0_0 a0_1 a0_2 a0_3) else ((addr_Right.f a0_0 a0_1 a0_2).bind fun t110=>(addr_Check.j0 k (!t110) a0_0 a0_1 a0_2 a0_3)))))=some r:=h;clear h;have HC2:=Ax H;clear H;go_enter Try.func59,Try.ntmps59;go_upto_region 1 with (first|((with_reducible refine gate_dst (N:=1) rfl ?_);refine box_event ?hg (N:=1) ?hd (cs:= #[.bool a0_0,.int .u64 a0_1,.int .u64 a0_2,.int .i64 a0_3]) (t:=30) ?hr ?_;(case hd=>rfl);(case hg=>rfl);(case hr=>first|(go_simp;done)|(go_simp;rfl));intro gb108 hg w3 hbox hb;have n0_:=Bs0 HB hb;have n1_:=Ax (hbox);have n2_:=Gw0 HB hg;have n3_:=Gw0 HB hg;clear HB;have HB:=n0_;have BK108:=n1_;have GW108:=n2_;have GE108:=n3_;clear n0_ n1_ n2_ n3_;clear hb hbox hg))
 (try simp only[Act.put,List.setIfInBounds_toArray,List.set_cons_zero,List.set_cons_succ])
 go_cut [22] (fun v22 wc=> ∃ (kq:Nat) (x22_1:Bool),v22= .bool x22_1∧Aside0 (addr_Check.j0 kq x22_1 a0_0 a0_1 a0_2 a0_3=some r)∧Aside0 (kq≤k)∧Aside0 (wc.heap[gb108]? =some (.cells #[.bool a0_0,.int .u64 a0_1,.int .u64 a0_2,.int .i64 a0_3] 30 (0,0)))∧Aside0 (Below w.heap.size w wc))
 case first=>
  have H:=HC2.out;clear HC2;by_cases c4:a0_3<0
  ·rw [if_pos c4]at H;have c4b0:decide (a0_3<0)=true:=decide_eq_true c4;clear c4
   (first|rw [c4b0]|(simp only[i64_w,i32_w];rw [c4b0])|skip)
   have H':=Ax H;clear H;try go_wp2
   replace BK108:=Ax (blk_drew BK108.out);replace HB:=Ax (below_drew1 HB.out);refine start_ (n:=19) (S:=fun w'=>w'.cell? ⟨gb108,0,none⟩=some (.bool a0_0)∧w'.cell? ⟨gb108,1,none⟩=some (.int .u64 a0_1)∧w'.cell? ⟨gb108,2,none⟩=some (.int .u64 a0_2)∧w'.cell? ⟨gb108,3,none⟩=some (.int .i64 a0_3)) (ds:= []) #[fa,fa,fa,fa,fa,fa,fa,fa,fa,fa,fa,fa,fa,fa,fa,fa,fa,fa,fa] (by kernel_rfl) rfl rfl ⟨(blk_cell BK108.out 0).trans rfl,(blk_cell BK108.out 1).trans rfl,(blk_cell BK108.out 2).trans rfl,(blk_cell BK108.out 3).trans rfl⟩ (fun hHeld=>?_);refine with_tabW addr_Check.tab1 addr_Check.bits1 (fun HT_ HW_=>?_);generalize w3.drew=w5 at BK108 HB hHeld ⊢;refine pz 0 4 #[tr,fa,fa,fa,fa,fa,fa,fa,fa,fa,fa,fa,fa,fa,fa,fa,fa,fa,fa] HT_.out ?_
   refine take_ (i:=1) (N:=some 5) (v:=?_) (a':=?_) #[tr,tr,fa,fa,fa,fa,fa,fa,fa,fa,fa,fa,fa,fa,fa,fa,fa,fa,fa] rfl rfl (take_ofW HT_.out HW_.out (by kernel_rfl)) (fun _ _ _ h=>h) (Or.inl ⟨by rfl,?_⟩) hHeld ?_ ?_;rotate_left
   ·rintro w' ⟨s0,s1,s2,s3⟩
    go_simp;with_reducible rfl
   rotate_left;·simp only[sP];rfl
   refine pz 2 6 #[tr,tr,tr,fa,fa,fa,fa,fa,fa,fa,fa,fa,fa,fa,fa,fa,fa,fa,fa] HT_.out ?_
   refine pz 3 7 #[tr,tr,tr,tr,fa,fa,fa,fa,fa,fa,fa,fa,fa,fa,fa,fa,fa,fa,fa] HT_.out ?_
   refine pu 4 8 #[tr,tr,tr,tr,tr,fa,fa,fa,fa,fa,fa,fa,fa,fa,fa,fa,fa,fa,fa] HT_.out ?_
   refine pu 5 9 #[tr,tr,tr,tr,tr,tr,fa,fa,fa,fa,fa,fa,fa,fa,fa,fa,fa,fa,fa] HT_.out ?_
   refine pu 6 10 #[tr,tr,tr,tr,tr,tr,tr,fa,fa,fa,fa,fa,fa,fa,fa,fa,fa,fa,fa] HT_.out ?_
   refine pu 7 11 #[tr,tr,tr,tr,tr,tr,tr,tr,fa,fa,fa,fa,fa,fa,fa,fa,fa,fa,fa] HT_.out ?_
   refine pu 8 12 #[tr,tr,tr,tr,tr,tr,tr,tr,tr,fa,fa,fa,fa,fa,fa,fa,fa,fa,fa] HT_.out ?_
   refine pu 9 13 #[tr,tr,tr,tr,tr,tr,tr,tr,tr,tr,fa,fa,fa,fa,fa,fa,fa,fa,fa] HT_.out ?_
   refine pz 10 14 #[tr,tr,tr,tr,tr,tr,tr,tr,tr,tr,tr,fa,fa,fa,fa,fa,fa,fa,fa] HT_.out ?_
   refine pz 11 15 #[tr,tr,tr,tr,tr,tr,tr,tr,tr,tr,tr,tr,fa,fa,fa,fa,fa,fa,fa] HT_.out ?_
   refine pu 12 16 #[tr,tr,tr,tr,tr,tr,tr,tr,tr,tr,tr,tr,tr,fa,fa,fa,fa,fa,fa] HT_.out ?_
   refine pu 13 17 #[tr,tr,tr,tr,tr,tr,tr,tr,tr,tr,tr,tr,tr,tr,fa,fa,fa,fa,fa] HT_.out ?_
   refine pu 14 18 #[tr,tr,tr,tr,tr,tr,tr,tr,tr,tr,tr,tr,tr,tr,tr,fa,fa,fa,fa] HT_.out ?_
   refine pu 15 19 #[tr,tr,tr,tr,tr,tr,tr,tr,tr,tr,tr,tr,tr,tr,tr,tr,fa,fa,fa] HT_.out ?_
   refine pu 16 20 #[tr,tr,tr,tr,tr,tr,tr,tr,tr,tr,tr,tr,tr,tr,tr,tr,tr,fa,fa] HT_.out ?_
   refine pu 17 21 #[tr,tr,tr,tr,tr,tr,tr,tr,tr,tr,tr,tr,tr,tr,tr,tr,tr,tr,fa] HT_.out ?_
   refine pz 18 22 #[tr,tr,tr,tr,tr,tr,tr,tr,tr,tr,tr,tr,tr,tr,tr,tr,tr,tr,tr] HT_.out ?_
   refine done_ (done_of HT_.out (by kernel_rfl)) ?_;try go_wp2
   go_meet
   case rel=>exact⟨_,(true),rS,H',⟨by first|omega|exact Nat.le_refl _⟩,⟨bf0 BK108.out⟩,⟨bw1 HB.out GE108.out⟩⟩
  ·rw [if_neg c4]at H;have c4b0:decide (a0_3<0)=false:=decide_eq_false c4;clear c4
   (first|rw [c4b0]|(simp only[i64_w,i32_w];rw [c4b0])|skip)
   replace H:=Option.bind_eq_some_iff.mp H;obtain⟨t109,A60,H⟩:=H;replace H:(if a0_3 > t109 then (addr_Check.j0 k true a0_0 a0_1 a0_2 a0_3) else ((addr_Right.f a0_0 a0_1 a0_2).bind fun t110=>(addr_Check.j0 k (!t110) a0_0 a0_1 a0_2 a0_3)))=some r:=H;have A6:=Ax A60;clear A60;by_cases c7:a0_3 > t109
   ·rw [if_pos c7]at H;have c7b0:decide (t109<a0_3)=true:=decide_eq_true c7;clear c7;have H':=Ax H;clear H;try go_wp2
    replace BK108:=Ax (blk_drew BK108.out);replace HB:=Ax (below_drew1 HB.out);refine start_ (n:=19) (S:=fun w'=>w'.cell? ⟨gb108,0,none⟩=some (.bool a0_0)∧w'.cell? ⟨gb108,1,none⟩=some (.int .u64 a0_1)∧w'.cell? ⟨gb108,2,none⟩=some (.int .u64 a0_2)∧w'.cell? ⟨gb108,3,none⟩=some (.int .i64 a0_3)) (ds:= []) #[fa,fa,fa,fa,fa,fa,fa,fa,fa,fa,fa,fa,fa,fa,fa,fa,fa,fa,fa] (by kernel_rfl) rfl rfl ⟨(blk_cell BK108.out 0).trans rfl,(blk_cell BK108.out 1).trans rfl,(blk_cell BK108.out 2).trans rfl,(blk_cell BK108.out 3).trans rfl⟩ (fun hHeld=>?_);refine with_tabW addr_Check.tab1 addr_Check.bits1 (fun HT_ HW_=>?_);generalize w3.drew=w8 at BK108 HB hHeld ⊢;refine pz 0 4 #[tr,fa,fa,fa,fa,fa,fa,fa,fa,fa,fa,fa,fa,fa,fa,fa,fa,fa,fa] HT_.out ?_
    refine take_ (i:=1) (N:=some 5) (v:=?_) (a':=?_) #[tr,tr,fa,fa,fa,fa,fa,fa,fa,fa,fa,fa,fa,fa,fa,fa,fa,fa,fa] rfl rfl (take_ofW HT_.out HW_.out (by kernel_rfl)) (fun _ _ _ h=>h) (Or.inl ⟨by rfl,?_⟩) hHeld ?_ ?_;rotate_left
    ·rintro w' ⟨s0,s1,s2,s3⟩
     go_simp;with_reducible rfl
    rotate_left;·simp only[sP];rfl
    refine pz 2 6 #[tr,tr,tr,fa,fa,fa,fa,fa,fa,fa,fa,fa,fa,fa,fa,fa,fa,fa,fa] HT_.out ?_
    refine pz 3 7 #[tr,tr,tr,tr,fa,fa,fa,fa,fa,fa,fa,fa,fa,fa,fa,fa,fa,fa,fa] HT_.out ?_
    refine pz 4 8 #[tr,tr,tr,tr,tr,fa,fa,fa,fa,fa,fa,fa,fa,fa,fa,fa,fa,fa,fa] HT_.out ?_
    refine pz 6 10 #[tr,tr,tr,tr,tr,fa,tr,fa,fa,fa,fa,fa,fa,fa,fa,fa,fa,fa,fa] HT_.out ?_
    refine take_ (i:=5) (N:=some 9) (v:=?_) (a':=?_) #[tr,tr,tr,tr,tr,tr,tr,fa,fa,fa,fa,fa,fa,fa,fa,fa,fa,fa,fa] rfl rfl (take_ofW HT_.out HW_.out (by kernel_rfl)) (fun _ _ _ h=>h) (Or.inl ⟨by rfl,?_⟩) hHeld ?_ ?_;rotate_left
    ·rintro w' ⟨s0,s1,s2,s3⟩
     go_simp;with_reducible rfl
    rotate_left;·simp only[sP];rfl
    refine take_ (i:=7) (N:=some 11) (v:=?_) (a':=?_) #[tr,tr,tr,tr,tr,tr,tr,tr,fa,fa,fa,fa,fa,fa,fa,fa,fa,fa,fa] rfl rfl (take_ofW HT_.out HW_.out (by kernel_rfl)) (fun _ _ _ h=>h) (Or.inl ⟨by rfl,?_⟩) hHeld ?_ ?_;rotate_left
    ·rintro w' ⟨s0,s1,s2,s3⟩
     go_simp;with_reducible rfl
    rotate_left;·simp only[sP];rfl
    refine one_ (i:=8) (N:=some 12) #[tr,tr,tr,tr,tr,tr,tr,tr,tr,fa,fa,fa,fa,fa,fa,fa,fa,fa,fa] rfl rfl (one_of HT_.out (by kernel_rfl)) (by decide) (fun K hK=>?_);refine goes_ Try.func58 (by kernel_rfl) rfl #[.bool a0_0] (by rfl) rfl rfl gS ?_;with_reducible refine (addr_Wide.calls a0_0 t109 _ A6.out).mono ?_
    rintro e w' ⟨rfl,⟨nd,rfl⟩⟩
    refine⟨_,rfl,?_⟩;refine hK.out _ _ ⟨(blk_cell BK108.out 0).trans rfl,(blk_cell BK108.out 1).trans rfl,(blk_cell BK108.out 2).trans rfl,(blk_cell BK108.out 3).trans rfl⟩ (fun hHeld=>?_);clear hK K;refine norm_ (a':=?_) ?_ ?_;rotate_left
    ·show Act.put _ (some 12) _=_
     simp only[sP];rfl
    refine pz 9 13 #[tr,tr,tr,tr,tr,tr,tr,tr,tr,tr,fa,fa,fa,fa,fa,fa,fa,fa,fa] HT_.out ?_
    refine pz 10 14 #[tr,tr,tr,tr,tr,tr,tr,tr,tr,tr,tr,fa,fa,fa,fa,fa,fa,fa,fa] HT_.out ?_
    refine pz 11 15 #[tr,tr,tr,tr,tr,tr,tr,tr,tr,tr,tr,tr,fa,fa,fa,fa,fa,fa,fa] HT_.out ?_
    refine pu 12 16 #[tr,tr,tr,tr,tr,tr,tr,tr,tr,tr,tr,tr,tr,fa,fa,fa,fa,fa,fa] HT_.out ?_
    refine pu 13 17 #[tr,tr,tr,tr,tr,tr,tr,tr,tr,tr,tr,tr,tr,tr,fa,fa,fa,fa,fa] HT_.out ?_
    refine pu 14 18 #[tr,tr,tr,tr,tr,tr,tr,tr,tr,tr,tr,tr,tr,tr,tr,fa,fa,fa,fa] HT_.out ?_
    refine pu 15 19 #[tr,tr,tr,tr,tr,tr,tr,tr,tr,tr,tr,tr,tr,tr,tr,tr,fa,fa,fa] HT_.out ?_
    refine pu 16 20 #[tr,tr,tr,tr,tr,tr,tr,tr,tr,tr,tr,tr,tr,tr,tr,tr,tr,fa,fa] HT_.out ?_
    refine pu 17 21 #[tr,tr,tr,tr,tr,tr,tr,tr,tr,tr,tr,tr,tr,tr,tr,tr,tr,tr,fa] HT_.out ?_
    refine pz 18 22 #[tr,tr,tr,tr,tr,tr,tr,tr,tr,tr,tr,tr,tr,tr,tr,tr,tr,tr,tr] HT_.out ?_
    refine done_ (done_of HT_.out (by kernel_rfl)) ?_;try go_wp2
    go_meet
    case rel=>exact⟨_,(true),rS,H',⟨by first|omega|exact Nat.le_refl _⟩,⟨bf0 BK108.out⟩,⟨bw1 HB.out GE108.out⟩⟩
   ·rw [if_neg c7]at H;have c7b0:decide (t109<a0_3)=false:=decide_eq_false c7;clear c7;replace H:=Option.bind_eq_some_iff.mp H;obtain⟨t110,A90,H⟩:=H;replace H:(addr_Check.j0 k (!t110) a0_0 a0_1 a0_2 a0_3)=some r:=H;have A9:=Ax A90;clear A90;have H':=Ax H;clear H;try go_wp2
    replace BK108:=Ax (blk_drew BK108.out);replace HB:=Ax (below_drew1 HB.out);refine start_ (n:=19) (S:=fun w'=>w'.cell? ⟨gb108,0,none⟩=some (.bool a0_0)∧w'.cell? ⟨gb108,1,none⟩=some (.int .u64 a0_1)∧w'.cell? ⟨gb108,2,none⟩=some (.int .u64 a0_2)∧w'.cell? ⟨gb108,3,none⟩=some (.int .i64 a0_3)) (ds:= []) #[fa,fa,fa,fa,fa,fa,fa,fa,fa,fa,fa,fa,fa,fa,fa,fa,fa,fa,fa] (by kernel_rfl) rfl rfl ⟨(blk_cell BK108.out 0).trans rfl,(blk_cell BK108.out 1).trans rfl,(blk_cell BK108.out 2).trans rfl,(blk_cell BK108.out 3).trans rfl⟩ (fun hHeld=>?_);refine with_tabW addr_Check.tab1 addr_Check.bits1 (fun HT_ HW_=>?_);generalize w3.drew=w10 at BK108 HB hHeld ⊢;refine pz 0 4 #[tr,fa,fa,fa,fa,fa,fa,fa,fa,fa,fa,fa,fa,fa,fa,fa,fa,fa,fa] HT_.out ?_
    refine take_ (i:=1) (N:=some 5) (v:=?_) (a':=?_) #[tr,tr,fa,fa,fa,fa,fa,fa,fa,fa,fa,fa,fa,fa,fa,fa,fa,fa,fa] rfl rfl (take_ofW HT_.out HW_.out (by kernel_rfl)) (fun _ _ _ h=>h) (Or.inl ⟨by rfl,?_⟩) hHeld ?_ ?_;rotate_left
    ·rintro w' ⟨s0,s1,s2,s3⟩
     go_simp;with_reducible rfl
    rotate_left;·simp only[sP];rfl
    refine pz 2 6 #[tr,tr,tr,fa,fa,fa,fa,fa,fa,fa,fa,fa,fa,fa,fa,fa,fa,fa,fa] HT_.out ?_
    refine pz 3 7 #[tr,tr,tr,tr,fa,fa,fa,fa,fa,fa,fa,fa,fa,fa,fa,fa,fa,fa,fa] HT_.out ?_
    refine pz 4 8 #[tr,tr,tr,tr,tr,fa,fa,fa,fa,fa,fa,fa,fa,fa,fa,fa,fa,fa,fa] HT_.out ?_
    refine pz 6 10 #[tr,tr,tr,tr,tr,fa,tr,fa,fa,fa,fa,fa,fa,fa,fa,fa,fa,fa,fa] HT_.out ?_
    refine take_ (i:=5) (N:=some 9) (v:=?_) (a':=?_) #[tr,tr,tr,tr,tr,tr,tr,fa,fa,fa,fa,fa,fa,fa,fa,fa,fa,fa,fa] rfl rfl (take_ofW HT_.out HW_.out (by kernel_rfl)) (fun _ _ _ h=>h) (Or.inl ⟨by rfl,?_⟩) hHeld ?_ ?_;rotate_left
    ·rintro w' ⟨s0,s1,s2,s3⟩
     go_simp;with_reducible rfl
    rotate_left;·simp only[sP];rfl
    refine take_ (i:=7) (N:=some 11) (v:=?_) (a':=?_) #[tr,tr,tr,tr,tr,tr,tr,tr,fa,fa,fa,fa,fa,fa,fa,fa,fa,fa,fa] rfl rfl (take_ofW HT_.out HW_.out (by kernel_rfl)) (fun _ _ _ h=>h) (Or.inl ⟨by rfl,?_⟩) hHeld ?_ ?_;rotate_left
    ·rintro w' ⟨s0,s1,s2,s3⟩
     go_simp;with_reducible rfl
    rotate_left;·simp only[sP];rfl
    refine one_ (i:=8) (N:=some 12) #[tr,tr,tr,tr,tr,tr,tr,tr,tr,fa,fa,fa,fa,fa,fa,fa,fa,fa,fa] rfl rfl (one_of HT_.out (by kernel_rfl)) (by decide) (fun K hK=>?_);refine goes_ Try.func58 (by kernel_rfl) rfl #[.bool a0_0] (by rfl) rfl rfl gS ?_;with_reducible refine (addr_Wide.calls a0_0 t109 _ A6.out).mono ?_
    rintro e w' ⟨rfl,⟨nd,rfl⟩⟩
    refine⟨_,rfl,?_⟩;refine hK.out _ _ ⟨(blk_cell BK108.out 0).trans rfl,(blk_cell BK108.out 1).trans rfl,(blk_cell BK108.out 2).trans rfl,(blk_cell BK108.out 3).trans rfl⟩ (fun hHeld=>?_);clear hK K;refine norm_ (a':=?_) ?_ ?_;rotate_left
    ·show Act.put _ (some 12) _=_
     simp only[sP];rfl
    refine pz 9 13 #[tr,tr,tr,tr,tr,tr,tr,tr,tr,tr,fa,fa,fa,fa,fa,fa,fa,fa,fa] HT_.out ?_
    refine pz 10 14 #[tr,tr,tr,tr,tr,tr,tr,tr,tr,tr,tr,fa,fa,fa,fa,fa,fa,fa,fa] HT_.out ?_
    refine pz 11 15 #[tr,tr,tr,tr,tr,tr,tr,tr,tr,tr,tr,tr,fa,fa,fa,fa,fa,fa,fa] HT_.out ?_
    refine pz 12 16 #[tr,tr,tr,tr,tr,tr,tr,tr,tr,tr,tr,tr,tr,fa,fa,fa,fa,fa,fa] HT_.out ?_
    refine pz 14 18 #[tr,tr,tr,tr,tr,tr,tr,tr,tr,tr,tr,tr,tr,fa,tr,fa,fa,fa,fa] HT_.out ?_
    refine take_ (i:=13) (N:=some 17) (v:=?_) (a':=?_) #[tr,tr,tr,tr,tr,tr,tr,tr,tr,tr,tr,tr,tr,tr,tr,fa,fa,fa,fa] rfl rfl (take_ofW HT_.out HW_.out (by kernel_rfl)) (fun _ _ _ h=>h) (Or.inl ⟨by rfl,?_⟩) hHeld ?_ ?_;rotate_left
    ·rintro w' ⟨s0,s1,s2,s3⟩
     go_simp;with_reducible rfl
    rotate_left;·simp only[sP];rfl
    refine take_ (i:=15) (N:=some 19) (v:=?_) (a':=?_) #[tr,tr,tr,tr,tr,tr,tr,tr,tr,tr,tr,tr,tr,tr,tr,tr,fa,fa,fa] rfl rfl (take_ofW HT_.out HW_.out (by kernel_rfl)) (fun _ _ _ h=>h) (Or.inl ⟨by rfl,?_⟩) hHeld ?_ ?_;rotate_left
    ·rintro w' ⟨s0,s1,s2,s3⟩
     go_simp;with_reducible rfl
    rotate_left;·simp only[sP];rfl
    refine one_ (i:=16) (N:=some 20) #[tr,tr,tr,tr,tr,tr,tr,tr,tr,tr,tr,tr,tr,tr,tr,tr,tr,fa,fa] rfl rfl (one_of HT_.out (by kernel_rfl)) (by decide) (fun K hK=>?_);refine goes_ Try.func72 (by kernel_rfl) rfl #[.bool a0_0,.agg #[.int .u64 a0_1,.int .u64 a0_2]] (by rfl) rfl rfl gS ?_;with_reducible refine (addr_Right.calls a0_0 a0_1 a0_2 t110 _ A9.out).mono ?_
    rintro e w11 ⟨rfl,hb⟩
    refine⟨_,rfl,?_⟩;replace BK108:=Bx0 BK108 hb;replace HB:=Bs1 HB hb GE108.out
    (try clear hb)
    refine hK.out _ _ ⟨(blk_cell BK108.out 0).trans rfl,(blk_cell BK108.out 1).trans rfl,(blk_cell BK108.out 2).trans rfl,(blk_cell BK108.out 3).trans rfl⟩ (fun hHeld=>?_);clear hK K;refine norm_ (a':=?_) ?_ ?_;rotate_left
    ·show Act.put _ (some 20) _=_
     simp only[sP];rfl
    refine pz 17 21 #[tr,tr,tr,tr,tr,tr,tr,tr,tr,tr,tr,tr,tr,tr,tr,tr,tr,tr,fa] HT_.out ?_
    refine pz 18 22 #[tr,tr,tr,tr,tr,tr,tr,tr,tr,tr,tr,tr,tr,tr,tr,tr,tr,tr,tr] HT_.out ?_
    refine done_ (done_of HT_.out (by kernel_rfl)) ?_;try go_wp2
    go_meet
    case rel=>exact⟨_,(!t110),rS,H',⟨by first|omega|exact Nat.le_refl _⟩,⟨bf0 BK108.out⟩,⟨bw1 HB.out GE108.out⟩⟩
 case rest=>
  clear HC2;try clear p2
  try clear c4
  try clear c4b0
  try clear c5
  try clear c7
  try clear c7b0
  obtain⟨kq,x22_1,rfl,HA,HJ1,BK108,HB⟩:=hcut;cases kq with
  |zero=>exact absurd HA.out (by simp [addr_Check.j0])
  |succ kj1=>
   have H:=HA.out;clear HA;simp only[addr_Check.j0]at H;by_cases c12:x22_1=true
   ·subst c12;have H1:(some 2)=some r:=by rw [if_pos rfl]at H;exact H
    clear H;have H:=H1;clear H1;obtain rfl:=Option.some.inj H;go_wp2;go_ret;exact⟨eS,bw1 HB.out GE108.out⟩
   ·replace c12:=Bool.eq_false_iff.mpr c12;subst c12;have H1:((addr_host.f a0_0 a0_1 a0_2 a0_3).bind fun bt111=>(if (Go.bits .or .u64 (Go.bits .and .u64 a0_1 bt111.1) (Go.bits .and .u64 a0_2 bt111.2))=0 then (some 0) else (some 2)))=some r:=by rw [if_neg (show ¬ (false=true) by decide)]at H;exact H
    clear H;have H:=H1;clear H1;replace H:=Option.bind_eq_some_iff.mp H;obtain⟨⟨t111,t112⟩,A130,H⟩:=H;replace H:(if (Go.bits .or .u64 (Go.bits .and .u64 a0_1 t111) (Go.bits .and .u64 a0_2 t112))=0 then (some 0) else (some 2))=some r:=H;have A13:=Ax A130;clear A130;by_cases c14:(Go.bits .or .u64 (Go.bits .and .u64 a0_1 t111) (Go.bits .and .u64 a0_2 t112))=0;·rw [if_pos c14]at H;have c14b0:((Go.bits .or .u64 (Go.bits .and .u64 a0_1 t111) (Go.bits .and .u64 a0_2 t112))==0)=true:=beq_iff_eq.mpr c14;have c14b1:((Go.bits .or .u64 (Go.bits .and .u64 a0_1 t111) (Go.bits .and .u64 a0_2 t112)) !=0)=false:=bne_eq_false_iff_eq.mpr c14;clear c14;obtain rfl:=Option.some.inj H;obtain⟨hcz15_0,hcz15_1,hcz15_2,hcz15_3,hfz15_0,hfz15_1,hfz15_2,hfz15_3⟩:=cl4 BK108;go_wp2_with (first|((with_reducible refine gate_callee (f:=73) rfl ?_);refine goesL_ (some 24) rfl rfl Try.func73 (by kernel_rfl) rfl #[.agg #[.bool a0_0,.int .u64 a0_1,.int .u64 a0_2,.int .i64 a0_3]] rfl gS ?_;(with_reducible refine (addr_host.calls a0_0 a0_1 a0_2 a0_3 t111 t112 _ A13.out).mono ?_);rintro e w16 ⟨rfl,hb⟩;refine⟨_,rfl,?_⟩;replace BK108:=Bx0 BK108 hb;replace HB:=Bs1 HB hb GE108.out;(try clear hb))|((with_reducible refine gate_dst (N:=3) rfl ?_);refine box_event ?hg (N:=3) ?hd (cs:= #[.int .u64 0,.int .u64 0]) (t:=28) ?hr ?_;(case hd=>rfl);(case hg=>rfl);(case hr=>first|(go_simp;done)|(go_simp;rfl));intro gb113 hg w17 hbox hb;have n0_:=Bx0 BK108 hb;have n1_:=Bs1 HB hb GE108.out;have n2_:=Ax (hbox);have n3_:=Gw1 HB hg GE108.out;have n4_:=Gw1 HB hg GE108.out;have n5_:=Nl0 BK108 hg;have n6_:=Nr0 BK108 hg;clear BK108;clear HB;have BK108:=n0_;have HB:=n1_;have BK113:=n2_;have GW113:=n3_;have GE113:=n4_;have NB108_113:=n5_;have NB113_108:=n6_;clear n0_ n1_ n2_ n3_ n4_ n5_ n6_;clear hb hbox hg;have hnb18:=NB113_108.out;have hnc18:=NB108_113.out;obtain⟨hcz19_0,hcz19_1,hfz19_0,hfz19_1⟩:=cl2 BK113;obtain⟨hcz20_0,hcz20_1,hcz20_2,hcz20_3,hfz20_0,hfz20_1,hfz20_2,hfz20_3⟩:=cl4 BK108));go_ret;exact⟨eS,bw2 HB.out GE108.out GE113.out⟩
    ·rw [if_neg c14]at H;have c14b0:((Go.bits .or .u64 (Go.bits .and .u64 a0_1 t111) (Go.bits .and .u64 a0_2 t112))==0)=false:=beq_eq_false_iff_ne.mpr c14;have c14b1:((Go.bits .or .u64 (Go.bits .and .u64 a0_1 t111) (Go.bits .and .u64 a0_2 t112)) !=0)=true:=bne_iff_ne.mpr c14;obtain rfl:=Option.some.inj H;obtain⟨hcz21_0,hcz21_1,hcz21_2,hcz21_3,hfz21_0,hfz21_1,hfz21_2,hfz21_3⟩:=cl4 BK108;go_wp2_with (first|((with_reducible refine gate_callee (f:=73) rfl ?_);refine goesL_ (some 24) rfl rfl Try.func73 (by kernel_rfl) rfl #[.agg #[.bool a0_0,.int .u64 a0_1,.int .u64 a0_2,.int .i64 a0_3]] rfl gS ?_;(with_reducible refine (addr_host.calls a0_0 a0_1 a0_2 a0_3 t111 t112 _ A13.out).mono ?_);rintro e w22 ⟨rfl,hb⟩;refine⟨_,rfl,?_⟩;replace BK108:=Bx0 BK108 hb;replace HB:=Bs1 HB hb GE108.out;(try clear hb))|((with_reducible refine gate_dst (N:=3) rfl ?_);refine box_event ?hg (N:=3) ?hd (cs:= #[.int .u64 0,.int .u64 0]) (t:=28) ?hr ?_;(case hd=>rfl);(case hg=>rfl);(case hr=>first|(go_simp;done)|(go_simp;rfl));intro gb113 hg w23 hbox hb;have n0_:=Bx0 BK108 hb;have n1_:=Bs1 HB hb GE108.out;have n2_:=Ax (hbox);have n3_:=Gw1 HB hg GE108.out;have n4_:=Gw1 HB hg GE108.out;have n5_:=Nl0 BK108 hg;have n6_:=Nr0 BK108 hg;clear BK108;clear HB;have BK108:=n0_;have HB:=n1_;have BK113:=n2_;have GW113:=n3_;have GE113:=n4_;have NB108_113:=n5_;have NB113_108:=n6_;clear n0_ n1_ n2_ n3_ n4_ n5_ n6_;clear hb hbox hg;have hnb24:=NB113_108.out;have hnc24:=NB108_113.out;obtain⟨hcz25_0,hcz25_1,hfz25_0,hfz25_1⟩:=cl2 BK113;obtain⟨hcz26_0,hcz26_1,hcz26_2,hcz26_3,hfz26_0,hfz26_1,hfz26_2,hfz26_3⟩:=cl4 BK108));go_ret;exact⟨eS,bw2 HB.out GE108.out GE113.out⟩
end Go.Proofs.Ythkdfojmhloofaa.Q
end
section
namespace Go.Proofs.Ythkdfojmhloofaa.Q
open Go.RowKit Go.Proofs.YthkdfojmhloofaaW.PrintWords Go.Proofs.YthkdfojmhloofaaW.PrintLast Go.Proofs.YthkdfojmhloofaaW.PrintMore
attribute [local go_sem] max2_int min2_int max_two min_two max_three min_three max_four min_four   -- for this text's walks alone
set_option linter.unusedVariables false
set_option linter.unusedSimpArgs false
def wd (s : ByteArray) (o : Nat) : Nat → Int
  | 0 => 0
  | i + 1 => wd s o i + bt s ((o + i : Nat) : Int) * 2 ^ (56 - 8 * i)
set_option maxRecDepth 100000 in
theorem wd_mul (s:ByteArray) (o:Nat): ∀ i:Nat,i≤8→ ∃ m:Nat,wd s o i=((2 ^ (64 - 8 * i) * m:Nat):Int)∧m<2 ^ (8 * i)
  |0,_=>⟨0,by simp [wd]⟩
  |i+1,h=>by
    obtain⟨m,e,hm⟩:=wd_mul s o i (by omega);have hb:=bt_range s ((o+i:Nat):Int);have e1:2 ^ (64 - 8 * i)=256 * 2 ^ (56 - 8 * i):=by rw [show 64 - 8 * i=8+(56 - 8 * i) by omega,Nat.pow_add]
    have e2:2 ^ (8 * (i+1))=256 * 2 ^ (8 * i):=by rw [show 8 * (i+1)=8+8 * i by omega,Nat.pow_add]
    refine⟨256 * m+(bt s ((o+i:Nat):Int)).toNat,?_,by omega⟩;obtain⟨n,hn⟩: ∃ n:Nat,bt s ((o+i:Nat):Int)=n:=⟨(bt s ((o+i:Nat):Int)).toNat,by omega⟩;rw [wd,e,e1,hn,show 64 - 8 * (i+1)=56 - 8 * i by omega,Nat.mul_add,show (2:Int) ^ (56 - 8 * i)=((2 ^ (56 - 8 * i):Nat):Int) from (Int.natCast_pow 2 _).symm];generalize 2 ^ (56 - 8 * i)=E
    push_cast
    congr 1
    · rw [Int.mul_assoc,Int.mul_left_comm]
    · rw [Int.toNat_natCast,Int.mul_comm]
theorem wd_range (s:ByteArray) (o:Nat) (i:Nat) (h:i≤8):0≤wd s o i∧wd s o i≤18446744073709551615:=by
  obtain⟨m,e,hm⟩:=wd_mul s o i h;have h1:2 ^ (64 - 8 * i) * m<2 ^ (64 - 8 * i) * 2 ^ (8 * i):=Nat.mul_lt_mul_of_pos_left hm (Nat.two_pow_pos _);rw [← Nat.pow_add,show 64 - 8 * i+8 * i=64 by omega]at h1;rw [e];omega
theorem wd_or (s:ByteArray) (o i:Nat) (c:Int) (b:Int) (h:i≤7) (hc:c=2 ^ (56 - 8 * i)) (hb:b=bt s ((o+i:Nat):Int)):bits .or .u64 (wd s o i) (b * c)=wd s o (i+1):=by
  obtain⟨m,e,hm⟩:=wd_mul s o i (by omega);have hr:=wd_range s o i (by omega);have hr2:=wd_range s o (i+1) (by omega);have hbr:=bt_range s ((o+i:Nat):Int);obtain⟨n,hn⟩: ∃ n:Nat,b=n:=⟨b.toNat,by omega⟩;rw [wd, ← hb, ← hc]at hr2 ⊢;rw [e]at hr hr2 ⊢;have e1:2 ^ (64 - 8 * i)=256 * 2 ^ (56 - 8 * i):=by rw [show 64 - 8 * i=8+(56 - 8 * i) by omega,Nat.pow_add]
  have hcn:b * c=((n * 2 ^ (56 - 8 * i):Nat):Int):=by rw [hn,hc];push_cast;rfl
  have hlt:n * 2 ^ (56 - 8 * i)<2 ^ (64 - 8 * i):=by rw [e1];exact Nat.mul_lt_mul_of_pos_right (by omega) (Nat.two_pow_pos _)
  have hlt2:n * 2 ^ (56 - 8 * i)<18446744073709551616:=Nat.lt_of_lt_of_le hlt (by rw [show 18446744073709551616=2 ^ 64 from rfl];exact Nat.pow_le_pow_right (by omega) (by omega));rw [hcn,u64_or_nat _ _ (by omega) hlt2, ← Nat.two_pow_add_eq_or_of_lt hlt]
  push_cast
  rfl
theorem wd_or7 (s:ByteArray) (o:Nat) (b:Int) (hb:b=bt s ((o+7:Nat):Int)):bits .or .u64 (wd s o 7) b=wd s o (7+1):=by
  have:=wd_or s o 7 1 b (by omega) rfl hb
  rwa [Int.mul_one]at this
def pfx_none:Option (Bool × Int × Int × Int × ByteArray × Int):=some (false,0,0,0,(⟨#[]⟩:ByteArray),7)
def pfx_of (k : Nat) (six : Bool) (hi lo ln : Int) (rest : ByteArray) : Option (Bool × Int × Int × Int × ByteArray × Int) :=
  (addr_Check.f k six hi lo ln).bind fun c => (if c = 0 then some (six, hi, lo, ln, rest, 0) else pfx_none)
def msg_GetPrefix.f (k : Nat) (a0 : ByteArray) : Option (Bool × Int × Int × Int × ByteArray × Int) :=
  if a0.size < 2 then pfx_none
  else if bt a0 0 = 4 then
    (if ((a0.extract 2 a0.size).size : Int) < (bt a0 1 + 7) / 8 then pfx_none else if bt a0 1 > 32 then pfx_none
     else pfx_of k false 0 (wd (a0.extract 2 a0.size) 0 (((bt a0 1).toNat + 7) / 8) / 4294967296) (bt a0 1) ((a0.extract 2 a0.size).extract (((bt a0 1).toNat + 7) / 8) (a0.extract 2 a0.size).size))
  else if bt a0 0 = 6 then
    (if ((a0.extract 2 a0.size).size : Int) < (bt a0 1 + 7) / 8 then pfx_none else if bt a0 1 > 128 then pfx_none
     else pfx_of k true (wd (a0.extract 2 a0.size) 0 (min 8 (((bt a0 1).toNat + 7) / 8))) (wd (a0.extract 2 a0.size) 8 (((bt a0 1).toNat + 7) / 8 - 8)) (bt a0 1) ((a0.extract 2 a0.size).extract (((bt a0 1).toNat + 7) / 8) (a0.extract 2 a0.size).size))
  else pfx_none
theorem msg_GetPrefix.mono: ∀ a0 k,LeO (msg_GetPrefix.f k a0) (msg_GetPrefix.f (k+1) a0):=by
  intro a0 k;unfold msg_GetPrefix.f pfx_of
  repeat' first
    | (with_reducible exact addr_Check.mono _ _ _ _ _)
    | (with_reducible exact LeO.refl _)
    | (with_reducible refine LeO.ite ?_ ?_)
    | (with_reducible refine LeO.bind ?_ (fun _ => ?_))
    | exact addr_Check.mono _ _ _ _ _
    | exact LeO.refl _
set_option maxHeartbeats 8000000 in
set_option maxRecDepth 100000 in
theorem msg_GetPrefix.calls (k:Nat) (a0:ByteArray) (r1:Bool) (r2:Int) (r3:Int) (r4:Int) (r5:ByteArray) (r6:Int) (w:World) (h:msg_GetPrefix.f k a0=some (r1,r2,r3,r4,r5,r6)):
    Calls Try.prog 36 #[.string a0] w fun e w'=>e= .returned (.tuple #[.agg #[.bool r1,.int .u64 r2,.int .u64 r3,.int .i64 r4],.string r5,.int .i64 r6])∧Below w.heap.size w w':=by
  unfold msg_GetPrefix.f at h;by_cases c1:a0.size<2;·rw [if_pos c1]at h;simp only[pfx_none,Option.some.injEq,Prod.mk.injEq]at h;obtain⟨rfl,rfl,rfl,rfl,rfl,rfl⟩:=h;have c1b:decide ((a0.size:Int)<2)=true:=decide_eq_true (by omega);go_enter Try.func36,Try.ntmps36;go_wp2;refine bodyPost_ret (results_ctt rfl _ _ w.heap.size 30 #[.bool false,.int .u64 0,.int .u64 0,.int .i64 0] (0,0) _ rfl (heap_alloc_new _ _) Try.underlying30 rfl (by kernel_rfl)) rfl ?_;exact⟨rfl,below_alloc (Below.refl _ _) _⟩
  · rw [if_neg c1]at h;have c1b:decide ((a0.size:Int)<2)=false:=decide_eq_false (by omega);have hx0: ∀ h:0<a0.size,((a0[0]'h).toNat:Int)=bt a0 0:=bt_at a0 0;have hx1: ∀ h:1<a0.size,((a0[1]'h).toNat:Int)=bt a0 1:=bt_at a0 1;have s0:0<a0.size:=by omega
    have s1:1<a0.size:=by omega
    have q0:(0<(a0.size:Int))=True:=eq_true (by omega);have q1:(1<(a0.size:Int))=True:=eq_true (by omega);have q2:(2≤(a0.size:Int))=True:=eq_true (by omega);have hb1:=bt_range a0 1;obtain⟨ln,hln⟩: ∃ ln:Nat,bt a0 1=ln:=⟨(bt a0 1).toNat,by omega⟩;rw [hln]at h hx1 hb1;clear hln;by_cases c2:bt a0 0=4
    · rw [if_pos c2]at h;have c2b:(bt a0 0 !=4)=false:=bne_eq_false_iff_eq.mpr c2;have c2c:(bt a0 0==6)=false:=by rw [c2];decide
      go_enter Try.func36,Try.ntmps36;go_wp2;have br1:(w.alloc (.cells #[.bool false,.int .u64 0,.int .u64 0,.int .i64 0] 30)).heap[w.heap.size]? =some (.cells #[.bool false,.int .u64 0,.int .u64 0,.int .i64 0] 30 (0,0)):=heap_alloc_new _ _;have hb1':Below w.heap.size w (w.alloc (.cells #[.bool false,.int .u64 0,.int .u64 0,.int .i64 0] 30)):=below_alloc (Below.refl _ _) _;have HS1:Aside0 ((w.alloc (.cells #[.bool false,.int .u64 0,.int .u64 0,.int .i64 0] 30)).heap.size=w.heap.size+1):=⟨by simp⟩;generalize (w.alloc (.cells #[.bool false,.int .u64 0,.int .u64 0,.int .i64 0] 30))=w1 at br1 hb1' HS1 ⊢;obtain⟨gr,hgr⟩: ∃ gr,w.heap.size=gr:=⟨_,rfl⟩;have HGR:=Aside0.mk hgr;rw [hgr]at br1 HS1 ⊢;have BR1:=Aside0.mk br1;have HB1:=Aside0.mk hb1';clear br1 hb1' hgr;go_region;have br2:(w1.alloc (.cells #[.bool false,.int .u64 0,.int .u64 0,.int .i64 ln] 30)).drew.heap[gr]? =some (.cells #[.bool false,.int .u64 0,.int .u64 0,.int .i64 0] 30 (0,0)):=blk_drew (blk_alloc BR1.out _);have bp2:(w1.alloc (.cells #[.bool false,.int .u64 0,.int .u64 0,.int .i64 ln] 30)).drew.heap[w1.heap.size]? =some (.cells #[.bool false,.int .u64 0,.int .u64 0,.int .i64 ln] 30 (0,0)):=blk_drew (heap_alloc_new _ _);have hb2:Below w.heap.size w (w1.alloc (.cells #[.bool false,.int .u64 0,.int .u64 0,.int .i64 ln] 30)).drew:=below_drew1 (below_alloc HB1.out _);have HGP:Aside0 (w1.heap.size=gr+1):=HS1;generalize (w1.alloc (.cells #[.bool false,.int .u64 0,.int .u64 0,.int .i64 ln] 30)).drew=w2 at br2 bp2 hb2 ⊢;obtain⟨gp,hgp⟩: ∃ gp,w1.heap.size=gp:=⟨_,rfl⟩;rw [hgp]at bp2 HGP ⊢;have HB2:=Aside0.mk hb2;have BR2:=Aside0.mk br2;have BP2:=Aside0.mk bp2;clear hgp hb2 br2 bp2 HS1 BR1 HB1;have hp0:w2.cell? ⟨gp,0,none⟩=some (.bool false):=(blk_cell BP2.out 0).trans rfl;have hp3:w2.cell? ⟨gp,3,none⟩=some (.int .i64 ln):=(blk_cell BP2.out 3).trans rfl;go_wp2;have hrs:(a0.extract 2 a0.size).size=a0.size - 2:=by simp
      generalize a0.extract 2 a0.size=rest at h hrs ⊢;have hp0d: ∀ q,(w2.drewN q).cell? ⟨gp,0,none⟩=some (.bool false):=fun _=>hp0
      have hp3d: ∀ q,(w2.drewN q).cell? ⟨gp,3,none⟩=some (.int .i64 ln):=fun _=>hp3
      by_cases c3:(rest.size:Int)<((ln:Int)+7) / 8
      · rw [if_pos c3]at h;simp only[pfx_none,Option.some.injEq,Prod.mk.injEq]at h;obtain⟨rfl,rfl,rfl,rfl,rfl,rfl⟩:=h;have hd:decide (((a0.size - 2:Nat):Int)<((ln:Int)+8 - 1) / 8)=true:=decide_eq_true (by omega);go_quiet (fail);have br3:=blk_drewN BR2.out nq;have hb3:=pw_below_drewN HB2.out nq;generalize w2.drewN nq=w3 at br3 hb3 ⊢;have BR3:=Aside0.mk br3;have HB3:=Aside0.mk hb3;clear br3 hb3;have hr0:=(blk_cell BR3.out 0).trans rfl;have hr1:=(blk_cell BR3.out 1).trans rfl;have hr2:=(blk_cell BR3.out 2).trans rfl;have hr3:=(blk_cell BR3.out 3).trans rfl;have hf0:=blk_frozen BR3.out 0;have hf1:=blk_frozen BR3.out 1;have hf2:=blk_frozen BR3.out 2;have hf3:=blk_frozen BR3.out 3;go_wp2;have hge:w.heap.size≤gr:=by have:=HGR.out;omega
        refine bodyPost_ret (results_ctt rfl _ _ gr 30 #[.bool false,.int .u64 0,.int .u64 0,.int .i64 0] (0,0) _ rfl (blk_put (blk_put (blk_put (blk_put BR3.out 0 (.bool false) rfl) 1 (.int .u64 0) rfl) 2 (.int .u64 0) rfl) 3 (.int .i64 0) rfl) Try.underlying30 rfl (by kernel_rfl)) rfl ?_;exact⟨rfl,(((HB3.out.setCell (p:=⟨gr,0,none⟩) hge _).setCell (p:=⟨gr,1,none⟩) hge _).setCell (p:=⟨gr,2,none⟩) hge _).setCell (p:=⟨gr,3,none⟩) hge _⟩
      · rw [if_neg c3]at h;have hd:decide (((a0.size - 2:Nat):Int)<((ln:Int)+8 - 1) / 8)=false:=decide_eq_false (by omega);by_cases c4:(ln:Int) > 32
        · rw [if_pos c4]at h;simp only[pfx_none,Option.some.injEq,Prod.mk.injEq]at h;obtain⟨rfl,rfl,rfl,rfl,rfl,rfl⟩:=h;have hd2:decide (32<(ln:Int))=true:=decide_eq_true c4;go_big_quiet (first|(go_at_call 58;exact Calls.quiet_of ((addr_Wide.calls false 32 _ rfl).mono (fun e w' h=>⟨h.1,h.2.out⟩))));have br3:=blk_drewN BR2.out nq;have hb3:=pw_below_drewN HB2.out nq;generalize w2.drewN nq=w3 at br3 hb3 ⊢;have BR3:=Aside0.mk br3;have HB3:=Aside0.mk hb3;clear br3 hb3;have hr0:=(blk_cell BR3.out 0).trans rfl;have hr1:=(blk_cell BR3.out 1).trans rfl;have hr2:=(blk_cell BR3.out 2).trans rfl;have hr3:=(blk_cell BR3.out 3).trans rfl;have hf0:=blk_frozen BR3.out 0;have hf1:=blk_frozen BR3.out 1;have hf2:=blk_frozen BR3.out 2;have hf3:=blk_frozen BR3.out 3;go_wp2;have hge:w.heap.size≤gr:=by have:=HGR.out;omega
          refine bodyPost_ret (results_ctt rfl _ _ gr 30 #[.bool false,.int .u64 0,.int .u64 0,.int .i64 0] (0,0) _ rfl (blk_put (blk_put (blk_put (blk_put BR3.out 0 (.bool false) rfl) 1 (.int .u64 0) rfl) 2 (.int .u64 0) rfl) 3 (.int .i64 0) rfl) Try.underlying30 rfl (by kernel_rfl)) rfl ?_;exact⟨rfl,(((HB3.out.setCell (p:=⟨gr,0,none⟩) hge _).setCell (p:=⟨gr,1,none⟩) hge _).setCell (p:=⟨gr,2,none⟩) hge _).setCell (p:=⟨gr,3,none⟩) hge _⟩
        · rw [if_neg c4]at h;have hd2:decide (32<(ln:Int))=false:=decide_eq_false c4;have hc4:Aside0 (ln≤32):=⟨by omega⟩;have hlt0:Aside0 ((ln+7) / 8≤rest.size):=⟨by omega⟩;unfold pfx_of at h;obtain⟨c,hC,h⟩:=Option.bind_eq_some_iff.mp h;have C:=Aside0.mk hC;have H:=Aside0.mk h;clear h hC;go_big_quiet (first|(go_at_call 58;exact Calls.quiet_of ((addr_Wide.calls false 32 _ rfl).mono (fun e w' h=>⟨h.1,h.2.out⟩))));clear hrs;have br3:=blk_drewN BR2.out nq;have bp3:=blk_drewN BP2.out nq;have hb3:=pw_below_drewN HB2.out nq;clear hp0 hp3 hp0d hp3d;generalize w2.drewN nq=w3 at br3 bp3 hb3 ⊢;have BR3:=Aside0.mk br3;have BP3:=Aside0.mk bp3;have HB3:=Aside0.mk hb3;clear br3 hb3 bp3;go_wp2;have hbw:w3.heap.size≠gr∧w3.heap.size≠gp∧w.heap.size≤w3.heap.size:=⟨fun e=>by have:=blk_lt BR3.out;omega,fun e=>by have:=blk_lt BP3.out;omega,HB3.out.size⟩;have br4:=blk_alloc BR3.out (.cells #[.int .u64 0,.int .u64 0] 116);have bp4:=blk_alloc BP3.out (.cells #[.int .u64 0,.int .u64 0] 116);have bw4:=heap_alloc_new w3 (.cells #[.int .u64 0,.int .u64 0] 116);have hb4:=below_alloc HB3.out (.cells #[.int .u64 0,.int .u64 0] 116);generalize w3.alloc (.cells #[.int .u64 0,.int .u64 0] 116)=w4 at br4 bp4 bw4 hb4 ⊢;generalize w3.heap.size=gw at bw4 hbw ⊢;have HGW:=Aside0.mk hbw;have BR4:=Aside0.mk br4;have BP4:=Aside0.mk bp4;have BW4:=Aside0.mk bw4;have HB4:=Aside0.mk hb4;clear hbw br4 bp4 bw4 hb4;go_loopg [51] 17 (fun kq v51 w'=> ∃ (i:Nat),i≤(ln+7) / 8∧kq=17 - i∧v51= .int .i64 (i:Int)∧Aside0 (Below w.heap.size w w')∧Aside0 (w'.heap[gr]? =some (.cells #[.bool false,.int .u64 0,.int .u64 0,.int .i64 0] 30 (0,0)))∧Aside0 (w'.heap[gp]? =some (.cells #[.bool false,.int .u64 0,.int .u64 0,.int .i64 ln] 30 (0,0)))∧Aside0 (w'.heap[gw]? =some (.cells #[.int .u64 (wd rest 0 (min 8 i)),.int .u64 (wd rest 8 (i - 8))] 116 (0,0))))
          case atStart=>exact⟨0,by omega,rfl,rfl,HB4,BR4,BP4,BW4⟩
          case round=>
            obtain⟨i,hi,rfl,rfl,HB5,BR5,BP5,BW5⟩:=hrel;by_cases hlt:i<(ln+7) / 8
            · match i,hi,hlt,BW5 with
              |0,_,hlt,BW5=>
                have hd:decide ((0:Int)<((ln:Int)+8 - 1) / 8)=true:=decide_eq_true (by omega);have hq:(0<(rest.size:Int))=True:=eq_true (by have:=hlt0.out;omega);have hq':0<rest.size:=by have:=hlt0.out;omega
                have hz: ∀ h:0<rest.size,((rest[0]'h).toNat:Int)=bt rest 0:=bt_at rest 0;have hc:=(blk_cell BW5.out 0).trans (rfl:_=some (Value.int .u64 (wd rest 0 0)));have hf:=blk_frozen BW5.out 0;have hwr:=wd_range rest 0 0 (by omega);have hrb:=bt_range rest 0;go_wp2;go_region;clear hc hf hwr hrb hz hd;rw [wd_or rest 0 0 72057594037927936 (bt rest 0) (by omega) rfl rfl];have bw6:=blk_drew (blk_put BW5.out 0 (.int .u64 (wd rest 0 1)) rfl);have br6:=blk_drew (blk_far BR5.out (p:=⟨gw,0,none⟩) (by simpa using fun e=>HGW.out.1 e.symm) (.int .u64 (wd rest 0 1)));have bp6:=blk_drew (blk_far BP5.out (p:=⟨gw,0,none⟩) (by simpa using fun e=>HGW.out.2.1 e.symm) (.int .u64 (wd rest 0 1)));have hb6:=below_drew1 (HB5.out.setCell (p:=⟨gw,0,none⟩) HGW.out.2.2 (.int .u64 (wd rest 0 1)));generalize (World.setCell _ ⟨gw,0,none⟩ (.int .u64 (wd rest 0 1))).drew=w6 at bw6 br6 bp6 hb6 ⊢;have BW6:=Aside0.mk bw6;have BR6:=Aside0.mk br6;have BP6:=Aside0.mk bp6;have HB6:=Aside0.mk hb6;clear bw6 br6 bp6 hb6;go_wp2;go_roundg (17 - (0+1))
                case measure=>omega
                case rel=>exact⟨0+1,by omega,rfl,rfl,HB6,BR6,BP6,BW6⟩
              |1,_,hlt,BW5=>
                have hd:decide ((1:Int)<((ln:Int)+8 - 1) / 8)=true:=decide_eq_true (by omega);have hq:(1<(rest.size:Int))=True:=eq_true (by have:=hlt0.out;omega);have hq':1<rest.size:=by have:=hlt0.out;omega
                have hz: ∀ h:1<rest.size,((rest[1]'h).toNat:Int)=bt rest 1:=bt_at rest 1;have hc:=(blk_cell BW5.out 0).trans (rfl:_=some (Value.int .u64 (wd rest 0 1)));have hf:=blk_frozen BW5.out 0;have hwr:=wd_range rest 0 1 (by omega);have hrb:=bt_range rest 1;go_wp2;go_region;clear hc hf hwr hrb hz hd;rw [wd_or rest 0 1 281474976710656 (bt rest 1) (by omega) rfl rfl];have bw6:=blk_drew (blk_put BW5.out 0 (.int .u64 (wd rest 0 2)) rfl);have br6:=blk_drew (blk_far BR5.out (p:=⟨gw,0,none⟩) (by simpa using fun e=>HGW.out.1 e.symm) (.int .u64 (wd rest 0 2)));have bp6:=blk_drew (blk_far BP5.out (p:=⟨gw,0,none⟩) (by simpa using fun e=>HGW.out.2.1 e.symm) (.int .u64 (wd rest 0 2)));have hb6:=below_drew1 (HB5.out.setCell (p:=⟨gw,0,none⟩) HGW.out.2.2 (.int .u64 (wd rest 0 2)));generalize (World.setCell _ ⟨gw,0,none⟩ (.int .u64 (wd rest 0 2))).drew=w6 at bw6 br6 bp6 hb6 ⊢;have BW6:=Aside0.mk bw6;have BR6:=Aside0.mk br6;have BP6:=Aside0.mk bp6;have HB6:=Aside0.mk hb6;clear bw6 br6 bp6 hb6;go_wp2;go_roundg (17 - (1+1))
                case measure=>omega
                case rel=>exact⟨1+1,by omega,rfl,rfl,HB6,BR6,BP6,BW6⟩
              |2,_,hlt,BW5=>
                have hd:decide ((2:Int)<((ln:Int)+8 - 1) / 8)=true:=decide_eq_true (by omega);have hq:(2<(rest.size:Int))=True:=eq_true (by have:=hlt0.out;omega);have hq':2<rest.size:=by have:=hlt0.out;omega
                have hz: ∀ h:2<rest.size,((rest[2]'h).toNat:Int)=bt rest 2:=bt_at rest 2;have hc:=(blk_cell BW5.out 0).trans (rfl:_=some (Value.int .u64 (wd rest 0 2)));have hf:=blk_frozen BW5.out 0;have hwr:=wd_range rest 0 2 (by omega);have hrb:=bt_range rest 2;go_wp2;go_region;clear hc hf hwr hrb hz hd;rw [wd_or rest 0 2 1099511627776 (bt rest 2) (by omega) rfl rfl];have bw6:=blk_drew (blk_put BW5.out 0 (.int .u64 (wd rest 0 3)) rfl);have br6:=blk_drew (blk_far BR5.out (p:=⟨gw,0,none⟩) (by simpa using fun e=>HGW.out.1 e.symm) (.int .u64 (wd rest 0 3)));have bp6:=blk_drew (blk_far BP5.out (p:=⟨gw,0,none⟩) (by simpa using fun e=>HGW.out.2.1 e.symm) (.int .u64 (wd rest 0 3)));have hb6:=below_drew1 (HB5.out.setCell (p:=⟨gw,0,none⟩) HGW.out.2.2 (.int .u64 (wd rest 0 3)));generalize (World.setCell _ ⟨gw,0,none⟩ (.int .u64 (wd rest 0 3))).drew=w6 at bw6 br6 bp6 hb6 ⊢;have BW6:=Aside0.mk bw6;have BR6:=Aside0.mk br6;have BP6:=Aside0.mk bp6;have HB6:=Aside0.mk hb6;clear bw6 br6 bp6 hb6;go_wp2;go_roundg (17 - (2+1))
                case measure=>omega
                case rel=>exact⟨2+1,by omega,rfl,rfl,HB6,BR6,BP6,BW6⟩
              |3,_,hlt,BW5=>
                have hd:decide ((3:Int)<((ln:Int)+8 - 1) / 8)=true:=decide_eq_true (by omega);have hq:(3<(rest.size:Int))=True:=eq_true (by have:=hlt0.out;omega);have hq':3<rest.size:=by have:=hlt0.out;omega
                have hz: ∀ h:3<rest.size,((rest[3]'h).toNat:Int)=bt rest 3:=bt_at rest 3;have hc:=(blk_cell BW5.out 0).trans (rfl:_=some (Value.int .u64 (wd rest 0 3)));have hf:=blk_frozen BW5.out 0;have hwr:=wd_range rest 0 3 (by omega);have hrb:=bt_range rest 3;go_wp2;go_region;clear hc hf hwr hrb hz hd;rw [wd_or rest 0 3 4294967296 (bt rest 3) (by omega) rfl rfl];have bw6:=blk_drew (blk_put BW5.out 0 (.int .u64 (wd rest 0 4)) rfl);have br6:=blk_drew (blk_far BR5.out (p:=⟨gw,0,none⟩) (by simpa using fun e=>HGW.out.1 e.symm) (.int .u64 (wd rest 0 4)));have bp6:=blk_drew (blk_far BP5.out (p:=⟨gw,0,none⟩) (by simpa using fun e=>HGW.out.2.1 e.symm) (.int .u64 (wd rest 0 4)));have hb6:=below_drew1 (HB5.out.setCell (p:=⟨gw,0,none⟩) HGW.out.2.2 (.int .u64 (wd rest 0 4)));generalize (World.setCell _ ⟨gw,0,none⟩ (.int .u64 (wd rest 0 4))).drew=w6 at bw6 br6 bp6 hb6 ⊢;have BW6:=Aside0.mk bw6;have BR6:=Aside0.mk br6;have BP6:=Aside0.mk bp6;have HB6:=Aside0.mk hb6;clear bw6 br6 bp6 hb6;go_wp2;go_roundg (17 - (3+1))
                case measure=>omega
                case rel=>exact⟨3+1,by omega,rfl,rfl,HB6,BR6,BP6,BW6⟩
              |n+4,_,hlt,_=>exact absurd hlt (by have:=hc4.out;omega)
            · have hd:decide ((i:Int)<((ln:Int)+8 - 1) / 8)=false:=decide_eq_false (by omega);obtain rfl:i=(ln+7) / 8:=by omega
              have bw6:=BW5.out;have em:min 8 ((ln+7) / 8)=(ln+7) / 8:=by have:=hc4.out;omega
              rw [em]at bw6;have hw0:=(blk_cell bw6 0).trans (rfl:_=some (Value.int .u64 (wd rest 0 ((ln+7) / 8))));have hw1:=(blk_cell bw6 1).trans (rfl:_=some (Value.int .u64 (wd rest 8 ((ln+7) / 8 - 8))));have hp0:=(blk_cell BP5.out 0).trans (rfl:_=some (Value.bool false));have hp1:=(blk_cell BP5.out 1).trans (rfl:_=some (Value.int .u64 0));have hp2:=(blk_cell BP5.out 2).trans (rfl:_=some (Value.int .u64 0));have hp3:=(blk_cell BP5.out 3).trans (rfl:_=some (Value.int .i64 ln));have hf0:=blk_frozen BP5.out 0;have hf1:=blk_frozen BP5.out 1;have hf2:=blk_frozen BP5.out 2;have hf3:=blk_frozen BP5.out 3
              skip
              have bp7:((((World.setCell wr ⟨gp,1,none⟩ (.int .u64 (wd rest 0 ((ln+7) / 8)))).setCell ⟨gp,2,none⟩ (.int .u64 (wd rest 8 ((ln+7) / 8 - 8)))).setCell ⟨gp,1,none⟩ (.int .u64 0)).setCell ⟨gp,2,none⟩ (.int .u64 (wd rest 0 ((ln+7) / 8) / 4294967296))).heap[gp]? =some (.cells #[.bool false,.int .u64 0,.int .u64 (wd rest 0 ((ln+7) / 8) / 4294967296),.int .i64 ln] 30 (0,0)):=blk_put (blk_put (blk_put (blk_put BP5.out 1 (.int .u64 (wd rest 0 ((ln+7) / 8))) rfl) 2 (.int .u64 (wd rest 8 ((ln+7) / 8 - 8))) rfl) 1 (.int .u64 0) rfl) 2 (.int .u64 (wd rest 0 ((ln+7) / 8) / 4294967296)) rfl;have hgg:w.heap.size≤gp:=by have:=HGP.out;have:=HGR.out;omega
              have br7:((((World.setCell wr ⟨gp,1,none⟩ (.int .u64 (wd rest 0 ((ln+7) / 8)))).setCell ⟨gp,2,none⟩ (.int .u64 (wd rest 8 ((ln+7) / 8 - 8)))).setCell ⟨gp,1,none⟩ (.int .u64 0)).setCell ⟨gp,2,none⟩ (.int .u64 (wd rest 0 ((ln+7) / 8) / 4294967296))).heap[gr]? =some (.cells #[.bool false,.int .u64 0,.int .u64 0,.int .i64 0] 30 (0,0)):=blk_far (blk_far (blk_far (blk_far BR5.out (p:=⟨gp,1,none⟩) (by have:=HGP.out;simp;omega) (.int .u64 (wd rest 0 ((ln+7) / 8)))) (p:=⟨gp,2,none⟩) (by have:=HGP.out;simp;omega) (.int .u64 (wd rest 8 ((ln+7) / 8 - 8)))) (p:=⟨gp,1,none⟩) (by have:=HGP.out;simp;omega) (.int .u64 0)) (p:=⟨gp,2,none⟩) (by have:=HGP.out;simp;omega) (.int .u64 (wd rest 0 ((ln+7) / 8) / 4294967296));have hb7:Below w.heap.size w ((((World.setCell wr ⟨gp,1,none⟩ (.int .u64 (wd rest 0 ((ln+7) / 8)))).setCell ⟨gp,2,none⟩ (.int .u64 (wd rest 8 ((ln+7) / 8 - 8)))).setCell ⟨gp,1,none⟩ (.int .u64 0)).setCell ⟨gp,2,none⟩ (.int .u64 (wd rest 0 ((ln+7) / 8) / 4294967296))):=(((HB5.out.setCell (p:=⟨gp,1,none⟩) hgg (.int .u64 (wd rest 0 ((ln+7) / 8)))).setCell (p:=⟨gp,2,none⟩) hgg (.int .u64 (wd rest 8 ((ln+7) / 8 - 8)))).setCell (p:=⟨gp,1,none⟩) hgg (.int .u64 0)).setCell (p:=⟨gp,2,none⟩) hgg (.int .u64 (wd rest 0 ((ln+7) / 8) / 4294967296));have BP7:=Aside0.mk bp7;have BR7:=Aside0.mk br7;have HB7:=Aside0.mk hb7;clear bp7 br7 hb7;have hq0:=(blk_cell BP7.out 0).trans (rfl:_=some (Value.bool false));have hq1:=(blk_cell BP7.out 1).trans (rfl:_=some (Value.int .u64 0));have hq2:=(blk_cell BP7.out 2).trans (rfl:_=some (Value.int .u64 (wd rest 0 ((ln+7) / 8) / 4294967296)));have hq3:=(blk_cell BP7.out 3).trans (rfl:_=some (Value.int .i64 ln));go_wp2_with (fail);refine (addr_Check.calls k false 0 (wd rest 0 ((ln+7) / 8) / 4294967296) ln c _ (by simpa using C.out)).mono ?_
              rintro e w8 ⟨rfl,hb⟩
              have BP8:=Aside0.mk (blk_below BP7.out hb);have BR8:=Aside0.mk (blk_below BR7.out hb);have HB8:=Aside0.mk (below_step HB7.out hb);clear hb hq0 hq1 hq2 hq3 hw0 hw1 hp0 hp1 hp2 hp3 hf0 hf1 hf2 hf3;have hr0:=(blk_cell BR8.out 0).trans rfl;have hr1:=(blk_cell BR8.out 1).trans rfl;have hr2:=(blk_cell BR8.out 2).trans rfl;have hr3:=(blk_cell BR8.out 3).trans rfl;have hf0:=blk_frozen BR8.out 0;have hf1:=blk_frozen BR8.out 1;have hf2:=blk_frozen BR8.out 2;have hf3:=blk_frozen BR8.out 3;have hge:w.heap.size≤gr:=by have:=HGR.out;omega
              by_cases hc:c=0
              · subst hc;have h:=H.out;rw [if_pos rfl]at h;simp only[Option.some.injEq,Prod.mk.injEq]at h;obtain⟨rfl,rfl,rfl,rfl,rfl,rfl⟩:=h;have hp0:=(blk_cell BP8.out 0).trans (rfl:_=some (Value.bool false));have hp1:=(blk_cell BP8.out 1).trans (rfl:_=some (Value.int .u64 0));have hp2:=(blk_cell BP8.out 2).trans (rfl:_=some (Value.int .u64 (wd rest 0 ((ln+7) / 8) / 4294967296)));have hp3:=(blk_cell BP8.out 3).trans (rfl:_=some (Value.int .i64 ln));obtain⟨n,hn7⟩: ∃ n:Nat,(((ln:Int)+8 - 1) / 8)=(n:Int):=⟨(ln+7) / 8,by omega⟩;have HN:Aside0 (n=(ln+7) / 8):=⟨by omega⟩;have hn8:n≤rest.size:=by have:=hlt0.out;have:=HN.out;omega
                have hn9:(0≤(n:Int))=True:=eq_true (by omega);rw [hn7];clear hn7;go_wp2;go_region;go_wp2;obtain rfl:=HN.out;refine bodyPost_ret (results_ctt rfl _ _ gr 30 #[.bool false,.int .u64 0,.int .u64 (wd rest 0 ((ln+7) / 8) / 4294967296),.int .i64 ln] (0,0) _ rfl (blk_put (blk_put (blk_put (blk_put BR8.out 0 (.bool false) rfl) 1 (.int .u64 0) rfl) 2 (.int .u64 (wd rest 0 ((ln+7) / 8) / 4294967296)) rfl) 3 (.int .i64 ln) rfl) Try.underlying30 rfl (by kernel_rfl)) rfl ?_;exact⟨rfl,below_drew1 ((((HB8.out.setCell (p:=⟨gr,0,none⟩) hge _).setCell (p:=⟨gr,1,none⟩) hge _).setCell (p:=⟨gr,2,none⟩) hge _).setCell (p:=⟨gr,3,none⟩) hge _)⟩
              ·have h:=H.out;rw [if_neg hc]at h;have hcb:(c !=0)=true:=bne_iff_ne.mpr hc;simp only[pfx_none,Option.some.injEq,Prod.mk.injEq]at h;obtain⟨rfl,rfl,rfl,rfl,rfl,rfl⟩:=h;go_wp2;refine bodyPost_ret (results_ctt rfl _ _ gr 30 #[.bool false,.int .u64 0,.int .u64 0,.int .i64 0] (0,0) _ rfl (blk_put (blk_put (blk_put (blk_put BR8.out 0 (.bool false) rfl) 1 (.int .u64 0) rfl) 2 (.int .u64 0) rfl) 3 (.int .i64 0) rfl) Try.underlying30 rfl (by kernel_rfl)) rfl ?_;exact⟨rfl,(((HB8.out.setCell (p:=⟨gr,0,none⟩) hge _).setCell (p:=⟨gr,1,none⟩) hge _).setCell (p:=⟨gr,2,none⟩) hge _).setCell (p:=⟨gr,3,none⟩) hge _⟩
    · rw [if_neg c2]at h;by_cases c2':bt a0 0=6
      · rw [if_pos c2']at h;have c2b:(bt a0 0 !=4)=true:=bne_iff_ne.mpr c2;have c2d:(bt a0 0 !=6)=false:=bne_eq_false_iff_eq.mpr c2';have c2c:(bt a0 0==6)=true:=beq_iff_eq.mpr c2';go_enter Try.func36,Try.ntmps36;go_wp2;have br1:(w.alloc (.cells #[.bool false,.int .u64 0,.int .u64 0,.int .i64 0] 30)).heap[w.heap.size]? =some (.cells #[.bool false,.int .u64 0,.int .u64 0,.int .i64 0] 30 (0,0)):=heap_alloc_new _ _;have hb1':Below w.heap.size w (w.alloc (.cells #[.bool false,.int .u64 0,.int .u64 0,.int .i64 0] 30)):=below_alloc (Below.refl _ _) _;have HS1:Aside0 ((w.alloc (.cells #[.bool false,.int .u64 0,.int .u64 0,.int .i64 0] 30)).heap.size=w.heap.size+1):=⟨by simp⟩;generalize (w.alloc (.cells #[.bool false,.int .u64 0,.int .u64 0,.int .i64 0] 30))=w1 at br1 hb1' HS1 ⊢;obtain⟨gr,hgr⟩: ∃ gr,w.heap.size=gr:=⟨_,rfl⟩;have HGR:=Aside0.mk hgr;rw [hgr]at br1 HS1 ⊢;have BR1:=Aside0.mk br1;have HB1:=Aside0.mk hb1';clear br1 hb1' hgr;go_region;have br2:(w1.alloc (.cells #[.bool true,.int .u64 0,.int .u64 0,.int .i64 ln] 30)).drew.heap[gr]? =some (.cells #[.bool false,.int .u64 0,.int .u64 0,.int .i64 0] 30 (0,0)):=blk_drew (blk_alloc BR1.out _);have bp2:(w1.alloc (.cells #[.bool true,.int .u64 0,.int .u64 0,.int .i64 ln] 30)).drew.heap[w1.heap.size]? =some (.cells #[.bool true,.int .u64 0,.int .u64 0,.int .i64 ln] 30 (0,0)):=blk_drew (heap_alloc_new _ _);have hb2:Below w.heap.size w (w1.alloc (.cells #[.bool true,.int .u64 0,.int .u64 0,.int .i64 ln] 30)).drew:=below_drew1 (below_alloc HB1.out _);have HGP:Aside0 (w1.heap.size=gr+1):=HS1;generalize (w1.alloc (.cells #[.bool true,.int .u64 0,.int .u64 0,.int .i64 ln] 30)).drew=w2 at br2 bp2 hb2 ⊢;obtain⟨gp,hgp⟩: ∃ gp,w1.heap.size=gp:=⟨_,rfl⟩;rw [hgp]at bp2 HGP ⊢;have HB2:=Aside0.mk hb2;have BR2:=Aside0.mk br2;have BP2:=Aside0.mk bp2;clear hgp hb2 br2 bp2 HS1 BR1 HB1;have hp0:w2.cell? ⟨gp,0,none⟩=some (.bool true):=(blk_cell BP2.out 0).trans rfl;have hp3:w2.cell? ⟨gp,3,none⟩=some (.int .i64 ln):=(blk_cell BP2.out 3).trans rfl;go_wp2;have hrs:(a0.extract 2 a0.size).size=a0.size - 2:=by simp
        generalize a0.extract 2 a0.size=rest at h hrs ⊢;have hp0d: ∀ q,(w2.drewN q).cell? ⟨gp,0,none⟩=some (.bool true):=fun _=>hp0
        have hp3d: ∀ q,(w2.drewN q).cell? ⟨gp,3,none⟩=some (.int .i64 ln):=fun _=>hp3
        by_cases c3:(rest.size:Int)<((ln:Int)+7) / 8
        · rw [if_pos c3]at h;simp only[pfx_none,Option.some.injEq,Prod.mk.injEq]at h;obtain⟨rfl,rfl,rfl,rfl,rfl,rfl⟩:=h;have hd:decide (((a0.size - 2:Nat):Int)<((ln:Int)+8 - 1) / 8)=true:=decide_eq_true (by omega);go_quiet (fail);have br3:=blk_drewN BR2.out nq;have hb3:=pw_below_drewN HB2.out nq;generalize w2.drewN nq=w3 at br3 hb3 ⊢;have BR3:=Aside0.mk br3;have HB3:=Aside0.mk hb3;clear br3 hb3;have hr0:=(blk_cell BR3.out 0).trans rfl;have hr1:=(blk_cell BR3.out 1).trans rfl;have hr2:=(blk_cell BR3.out 2).trans rfl;have hr3:=(blk_cell BR3.out 3).trans rfl;have hf0:=blk_frozen BR3.out 0;have hf1:=blk_frozen BR3.out 1;have hf2:=blk_frozen BR3.out 2;have hf3:=blk_frozen BR3.out 3;go_wp2;have hge:w.heap.size≤gr:=by have:=HGR.out;omega
          refine bodyPost_ret (results_ctt rfl _ _ gr 30 #[.bool false,.int .u64 0,.int .u64 0,.int .i64 0] (0,0) _ rfl (blk_put (blk_put (blk_put (blk_put BR3.out 0 (.bool false) rfl) 1 (.int .u64 0) rfl) 2 (.int .u64 0) rfl) 3 (.int .i64 0) rfl) Try.underlying30 rfl (by kernel_rfl)) rfl ?_;exact⟨rfl,(((HB3.out.setCell (p:=⟨gr,0,none⟩) hge _).setCell (p:=⟨gr,1,none⟩) hge _).setCell (p:=⟨gr,2,none⟩) hge _).setCell (p:=⟨gr,3,none⟩) hge _⟩
        · rw [if_neg c3]at h;have hd:decide (((a0.size - 2:Nat):Int)<((ln:Int)+8 - 1) / 8)=false:=decide_eq_false (by omega);by_cases c4:(ln:Int) > 128
          · rw [if_pos c4]at h;simp only[pfx_none,Option.some.injEq,Prod.mk.injEq]at h;obtain⟨rfl,rfl,rfl,rfl,rfl,rfl⟩:=h;have hd2:decide (128<(ln:Int))=true:=decide_eq_true c4;go_big_quiet (first|(go_at_call 58;exact Calls.quiet_of ((addr_Wide.calls true 128 _ rfl).mono (fun e w' h=>⟨h.1,h.2.out⟩))));have br3:=blk_drewN BR2.out nq;have hb3:=pw_below_drewN HB2.out nq;generalize w2.drewN nq=w3 at br3 hb3 ⊢;have BR3:=Aside0.mk br3;have HB3:=Aside0.mk hb3;clear br3 hb3;have hr0:=(blk_cell BR3.out 0).trans rfl;have hr1:=(blk_cell BR3.out 1).trans rfl;have hr2:=(blk_cell BR3.out 2).trans rfl;have hr3:=(blk_cell BR3.out 3).trans rfl;have hf0:=blk_frozen BR3.out 0;have hf1:=blk_frozen BR3.out 1;have hf2:=blk_frozen BR3.out 2;have hf3:=blk_frozen BR3.out 3;go_wp2;have hge:w.heap.size≤gr:=by have:=HGR.out;omega
            refine bodyPost_ret (results_ctt rfl _ _ gr 30 #[.bool false,.int .u64 0,.int .u64 0,.int .i64 0] (0,0) _ rfl (blk_put (blk_put (blk_put (blk_put BR3.out 0 (.bool false) rfl) 1 (.int .u64 0) rfl) 2 (.int .u64 0) rfl) 3 (.int .i64 0) rfl) Try.underlying30 rfl (by kernel_rfl)) rfl ?_;exact⟨rfl,(((HB3.out.setCell (p:=⟨gr,0,none⟩) hge _).setCell (p:=⟨gr,1,none⟩) hge _).setCell (p:=⟨gr,2,none⟩) hge _).setCell (p:=⟨gr,3,none⟩) hge _⟩
          · rw [if_neg c4]at h;have hd2:decide (128<(ln:Int))=false:=decide_eq_false c4;have hc4:Aside0 (ln≤128):=⟨by omega⟩;have hlt0:Aside0 ((ln+7) / 8≤rest.size):=⟨by omega⟩;unfold pfx_of at h;obtain⟨c,hC,h⟩:=Option.bind_eq_some_iff.mp h;have C:=Aside0.mk hC;have H:=Aside0.mk h;clear h hC;go_big_quiet (first|(go_at_call 58;exact Calls.quiet_of ((addr_Wide.calls true 128 _ rfl).mono (fun e w' h=>⟨h.1,h.2.out⟩))));clear hrs;have br3:=blk_drewN BR2.out nq;have bp3:=blk_drewN BP2.out nq;have hb3:=pw_below_drewN HB2.out nq;clear hp0 hp3 hp0d hp3d;generalize w2.drewN nq=w3 at br3 bp3 hb3 ⊢;have BR3:=Aside0.mk br3;have BP3:=Aside0.mk bp3;have HB3:=Aside0.mk hb3;clear br3 hb3 bp3;go_wp2;have hbw:w3.heap.size≠gr∧w3.heap.size≠gp∧w.heap.size≤w3.heap.size:=⟨fun e=>by have:=blk_lt BR3.out;omega,fun e=>by have:=blk_lt BP3.out;omega,HB3.out.size⟩;have br4:=blk_alloc BR3.out (.cells #[.int .u64 0,.int .u64 0] 116);have bp4:=blk_alloc BP3.out (.cells #[.int .u64 0,.int .u64 0] 116);have bw4:=heap_alloc_new w3 (.cells #[.int .u64 0,.int .u64 0] 116);have hb4:=below_alloc HB3.out (.cells #[.int .u64 0,.int .u64 0] 116);generalize w3.alloc (.cells #[.int .u64 0,.int .u64 0] 116)=w4 at br4 bp4 bw4 hb4 ⊢;generalize w3.heap.size=gw at bw4 hbw ⊢;have HGW:=Aside0.mk hbw;have BR4:=Aside0.mk br4;have BP4:=Aside0.mk bp4;have BW4:=Aside0.mk bw4;have HB4:=Aside0.mk hb4;clear hbw br4 bp4 bw4 hb4;go_loopg [51] 17 (fun kq v51 w'=> ∃ (i:Nat),i≤(ln+7) / 8∧kq=17 - i∧v51= .int .i64 (i:Int)∧Aside0 (Below w.heap.size w w')∧Aside0 (w'.heap[gr]? =some (.cells #[.bool false,.int .u64 0,.int .u64 0,.int .i64 0] 30 (0,0)))∧Aside0 (w'.heap[gp]? =some (.cells #[.bool true,.int .u64 0,.int .u64 0,.int .i64 ln] 30 (0,0)))∧Aside0 (w'.heap[gw]? =some (.cells #[.int .u64 (wd rest 0 (min 8 i)),.int .u64 (wd rest 8 (i - 8))] 116 (0,0))))
            case atStart=>exact⟨0,by omega,rfl,rfl,HB4,BR4,BP4,BW4⟩
            case round=>
              obtain⟨i,hi,rfl,rfl,HB5,BR5,BP5,BW5⟩:=hrel;by_cases hlt:i<(ln+7) / 8
              · match i,hi,hlt,BW5 with
                |0,_,hlt,BW5=>
                  have hd:decide ((0:Int)<((ln:Int)+8 - 1) / 8)=true:=decide_eq_true (by omega);have hq:(0<(rest.size:Int))=True:=eq_true (by have:=hlt0.out;omega);have hq':0<rest.size:=by have:=hlt0.out;omega
                  have hz: ∀ h:0<rest.size,((rest[0]'h).toNat:Int)=bt rest 0:=bt_at rest 0;have hc:=(blk_cell BW5.out 0).trans (rfl:_=some (Value.int .u64 (wd rest 0 0)));have hf:=blk_frozen BW5.out 0;have hwr:=wd_range rest 0 0 (by omega);have hrb:=bt_range rest 0;go_wp2;go_region;clear hc hf hwr hrb hz hd;rw [wd_or rest 0 0 72057594037927936 (bt rest 0) (by omega) rfl rfl];have bw6:=blk_drew (blk_put BW5.out 0 (.int .u64 (wd rest 0 1)) rfl);have br6:=blk_drew (blk_far BR5.out (p:=⟨gw,0,none⟩) (by simpa using fun e=>HGW.out.1 e.symm) (.int .u64 (wd rest 0 1)));have bp6:=blk_drew (blk_far BP5.out (p:=⟨gw,0,none⟩) (by simpa using fun e=>HGW.out.2.1 e.symm) (.int .u64 (wd rest 0 1)));have hb6:=below_drew1 (HB5.out.setCell (p:=⟨gw,0,none⟩) HGW.out.2.2 (.int .u64 (wd rest 0 1)));generalize (World.setCell _ ⟨gw,0,none⟩ (.int .u64 (wd rest 0 1))).drew=w6 at bw6 br6 bp6 hb6 ⊢;have BW6:=Aside0.mk bw6;have BR6:=Aside0.mk br6;have BP6:=Aside0.mk bp6;have HB6:=Aside0.mk hb6;clear bw6 br6 bp6 hb6;go_wp2;go_roundg (17 - (0+1))
                  case measure=>omega
                  case rel=>exact⟨0+1,by omega,rfl,rfl,HB6,BR6,BP6,BW6⟩
                |1,_,hlt,BW5=>
                  have hd:decide ((1:Int)<((ln:Int)+8 - 1) / 8)=true:=decide_eq_true (by omega);have hq:(1<(rest.size:Int))=True:=eq_true (by have:=hlt0.out;omega);have hq':1<rest.size:=by have:=hlt0.out;omega
                  have hz: ∀ h:1<rest.size,((rest[1]'h).toNat:Int)=bt rest 1:=bt_at rest 1;have hc:=(blk_cell BW5.out 0).trans (rfl:_=some (Value.int .u64 (wd rest 0 1)));have hf:=blk_frozen BW5.out 0;have hwr:=wd_range rest 0 1 (by omega);have hrb:=bt_range rest 1;go_wp2;go_region;clear hc hf hwr hrb hz hd;rw [wd_or rest 0 1 281474976710656 (bt rest 1) (by omega) rfl rfl];have bw6:=blk_drew (blk_put BW5.out 0 (.int .u64 (wd rest 0 2)) rfl);have br6:=blk_drew (blk_far BR5.out (p:=⟨gw,0,none⟩) (by simpa using fun e=>HGW.out.1 e.symm) (.int .u64 (wd rest 0 2)));have bp6:=blk_drew (blk_far BP5.out (p:=⟨gw,0,none⟩) (by simpa using fun e=>HGW.out.2.1 e.symm) (.int .u64 (wd rest 0 2)));have hb6:=below_drew1 (HB5.out.setCell (p:=⟨gw,0,none⟩) HGW.out.2.2 (.int .u64 (wd rest 0 2)));generalize (World.setCell _ ⟨gw,0,none⟩ (.int .u64 (wd rest 0 2))).drew=w6 at bw6 br6 bp6 hb6 ⊢;have BW6:=Aside0.mk bw6;have BR6:=Aside0.mk br6;have BP6:=Aside0.mk bp6;have HB6:=Aside0.mk hb6;clear bw6 br6 bp6 hb6;go_wp2;go_roundg (17 - (1+1))
                  case measure=>omega
                  case rel=>exact⟨1+1,by omega,rfl,rfl,HB6,BR6,BP6,BW6⟩
                |2,_,hlt,BW5=>
                  have hd:decide ((2:Int)<((ln:Int)+8 - 1) / 8)=true:=decide_eq_true (by omega);have hq:(2<(rest.size:Int))=True:=eq_true (by have:=hlt0.out;omega);have hq':2<rest.size:=by have:=hlt0.out;omega
                  have hz: ∀ h:2<rest.size,((rest[2]'h).toNat:Int)=bt rest 2:=bt_at rest 2;have hc:=(blk_cell BW5.out 0).trans (rfl:_=some (Value.int .u64 (wd rest 0 2)));have hf:=blk_frozen BW5.out 0;have hwr:=wd_range rest 0 2 (by omega);have hrb:=bt_range rest 2;go_wp2;go_region;clear hc hf hwr hrb hz hd;rw [wd_or rest 0 2 1099511627776 (bt rest 2) (by omega) rfl rfl];have bw6:=blk_drew (blk_put BW5.out 0 (.int .u64 (wd rest 0 3)) rfl);have br6:=blk_drew (blk_far BR5.out (p:=⟨gw,0,none⟩) (by simpa using fun e=>HGW.out.1 e.symm) (.int .u64 (wd rest 0 3)));have bp6:=blk_drew (blk_far BP5.out (p:=⟨gw,0,none⟩) (by simpa using fun e=>HGW.out.2.1 e.symm) (.int .u64 (wd rest 0 3)));have hb6:=below_drew1 (HB5.out.setCell (p:=⟨gw,0,none⟩) HGW.out.2.2 (.int .u64 (wd rest 0 3)));generalize (World.setCell _ ⟨gw,0,none⟩ (.int .u64 (wd rest 0 3))).drew=w6 at bw6 br6 bp6 hb6 ⊢;have BW6:=Aside0.mk bw6;have BR6:=Aside0.mk br6;have BP6:=Aside0.mk bp6;have HB6:=Aside0.mk hb6;clear bw6 br6 bp6 hb6;go_wp2;go_roundg (17 - (2+1))
                  case measure=>omega
                  case rel=>exact⟨2+1,by omega,rfl,rfl,HB6,BR6,BP6,BW6⟩
                |3,_,hlt,BW5=>
                  have hd:decide ((3:Int)<((ln:Int)+8 - 1) / 8)=true:=decide_eq_true (by omega);have hq:(3<(rest.size:Int))=True:=eq_true (by have:=hlt0.out;omega);have hq':3<rest.size:=by have:=hlt0.out;omega
                  have hz: ∀ h:3<rest.size,((rest[3]'h).toNat:Int)=bt rest 3:=bt_at rest 3;have hc:=(blk_cell BW5.out 0).trans (rfl:_=some (Value.int .u64 (wd rest 0 3)));have hf:=blk_frozen BW5.out 0;have hwr:=wd_range rest 0 3 (by omega);have hrb:=bt_range rest 3;go_wp2;go_region;clear hc hf hwr hrb hz hd;rw [wd_or rest 0 3 4294967296 (bt rest 3) (by omega) rfl rfl];have bw6:=blk_drew (blk_put BW5.out 0 (.int .u64 (wd rest 0 4)) rfl);have br6:=blk_drew (blk_far BR5.out (p:=⟨gw,0,none⟩) (by simpa using fun e=>HGW.out.1 e.symm) (.int .u64 (wd rest 0 4)));have bp6:=blk_drew (blk_far BP5.out (p:=⟨gw,0,none⟩) (by simpa using fun e=>HGW.out.2.1 e.symm) (.int .u64 (wd rest 0 4)));have hb6:=below_drew1 (HB5.out.setCell (p:=⟨gw,0,none⟩) HGW.out.2.2 (.int .u64 (wd rest 0 4)));generalize (World.setCell _ ⟨gw,0,none⟩ (.int .u64 (wd rest 0 4))).drew=w6 at bw6 br6 bp6 hb6 ⊢;have BW6:=Aside0.mk bw6;have BR6:=Aside0.mk br6;have BP6:=Aside0.mk bp6;have HB6:=Aside0.mk hb6;clear bw6 br6 bp6 hb6;go_wp2;go_roundg (17 - (3+1))
                  case measure=>omega
                  case rel=>exact⟨3+1,by omega,rfl,rfl,HB6,BR6,BP6,BW6⟩
                |4,_,hlt,BW5=>
                  have hd:decide ((4:Int)<((ln:Int)+8 - 1) / 8)=true:=decide_eq_true (by omega);have hq:(4<(rest.size:Int))=True:=eq_true (by have:=hlt0.out;omega);have hq':4<rest.size:=by have:=hlt0.out;omega
                  have hz: ∀ h:4<rest.size,((rest[4]'h).toNat:Int)=bt rest 4:=bt_at rest 4;have hc:=(blk_cell BW5.out 0).trans (rfl:_=some (Value.int .u64 (wd rest 0 4)));have hf:=blk_frozen BW5.out 0;have hwr:=wd_range rest 0 4 (by omega);have hrb:=bt_range rest 4;go_wp2;go_region;clear hc hf hwr hrb hz hd;rw [wd_or rest 0 4 16777216 (bt rest 4) (by omega) rfl rfl];have bw6:=blk_drew (blk_put BW5.out 0 (.int .u64 (wd rest 0 5)) rfl);have br6:=blk_drew (blk_far BR5.out (p:=⟨gw,0,none⟩) (by simpa using fun e=>HGW.out.1 e.symm) (.int .u64 (wd rest 0 5)));have bp6:=blk_drew (blk_far BP5.out (p:=⟨gw,0,none⟩) (by simpa using fun e=>HGW.out.2.1 e.symm) (.int .u64 (wd rest 0 5)));have hb6:=below_drew1 (HB5.out.setCell (p:=⟨gw,0,none⟩) HGW.out.2.2 (.int .u64 (wd rest 0 5)));generalize (World.setCell _ ⟨gw,0,none⟩ (.int .u64 (wd rest 0 5))).drew=w6 at bw6 br6 bp6 hb6 ⊢;have BW6:=Aside0.mk bw6;have BR6:=Aside0.mk br6;have BP6:=Aside0.mk bp6;have HB6:=Aside0.mk hb6;clear bw6 br6 bp6 hb6;go_wp2;go_roundg (17 - (4+1))
                  case measure=>omega
                  case rel=>exact⟨4+1,by omega,rfl,rfl,HB6,BR6,BP6,BW6⟩
                |5,_,hlt,BW5=>
                  have hd:decide ((5:Int)<((ln:Int)+8 - 1) / 8)=true:=decide_eq_true (by omega);have hq:(5<(rest.size:Int))=True:=eq_true (by have:=hlt0.out;omega);have hq':5<rest.size:=by have:=hlt0.out;omega
                  have hz: ∀ h:5<rest.size,((rest[5]'h).toNat:Int)=bt rest 5:=bt_at rest 5;have hc:=(blk_cell BW5.out 0).trans (rfl:_=some (Value.int .u64 (wd rest 0 5)));have hf:=blk_frozen BW5.out 0;have hwr:=wd_range rest 0 5 (by omega);have hrb:=bt_range rest 5;go_wp2;go_region;clear hc hf hwr hrb hz hd;rw [wd_or rest 0 5 65536 (bt rest 5) (by omega) rfl rfl];have bw6:=blk_drew (blk_put BW5.out 0 (.int .u64 (wd rest 0 6)) rfl);have br6:=blk_drew (blk_far BR5.out (p:=⟨gw,0,none⟩) (by simpa using fun e=>HGW.out.1 e.symm) (.int .u64 (wd rest 0 6)));have bp6:=blk_drew (blk_far BP5.out (p:=⟨gw,0,none⟩) (by simpa using fun e=>HGW.out.2.1 e.symm) (.int .u64 (wd rest 0 6)));have hb6:=below_drew1 (HB5.out.setCell (p:=⟨gw,0,none⟩) HGW.out.2.2 (.int .u64 (wd rest 0 6)));generalize (World.setCell _ ⟨gw,0,none⟩ (.int .u64 (wd rest 0 6))).drew=w6 at bw6 br6 bp6 hb6 ⊢;have BW6:=Aside0.mk bw6;have BR6:=Aside0.mk br6;have BP6:=Aside0.mk bp6;have HB6:=Aside0.mk hb6;clear bw6 br6 bp6 hb6;go_wp2;go_roundg (17 - (5+1))
                  case measure=>omega
                  case rel=>exact⟨5+1,by omega,rfl,rfl,HB6,BR6,BP6,BW6⟩
                |6,_,hlt,BW5=>
                  have hd:decide ((6:Int)<((ln:Int)+8 - 1) / 8)=true:=decide_eq_true (by omega);have hq:(6<(rest.size:Int))=True:=eq_true (by have:=hlt0.out;omega);have hq':6<rest.size:=by have:=hlt0.out;omega
                  have hz: ∀ h:6<rest.size,((rest[6]'h).toNat:Int)=bt rest 6:=bt_at rest 6;have hc:=(blk_cell BW5.out 0).trans (rfl:_=some (Value.int .u64 (wd rest 0 6)));have hf:=blk_frozen BW5.out 0;have hwr:=wd_range rest 0 6 (by omega);have hrb:=bt_range rest 6;go_wp2;go_region;clear hc hf hwr hrb hz hd;rw [wd_or rest 0 6 256 (bt rest 6) (by omega) rfl rfl];have bw6:=blk_drew (blk_put BW5.out 0 (.int .u64 (wd rest 0 7)) rfl);have br6:=blk_drew (blk_far BR5.out (p:=⟨gw,0,none⟩) (by simpa using fun e=>HGW.out.1 e.symm) (.int .u64 (wd rest 0 7)));have bp6:=blk_drew (blk_far BP5.out (p:=⟨gw,0,none⟩) (by simpa using fun e=>HGW.out.2.1 e.symm) (.int .u64 (wd rest 0 7)));have hb6:=below_drew1 (HB5.out.setCell (p:=⟨gw,0,none⟩) HGW.out.2.2 (.int .u64 (wd rest 0 7)));generalize (World.setCell _ ⟨gw,0,none⟩ (.int .u64 (wd rest 0 7))).drew=w6 at bw6 br6 bp6 hb6 ⊢;have BW6:=Aside0.mk bw6;have BR6:=Aside0.mk br6;have BP6:=Aside0.mk bp6;have HB6:=Aside0.mk hb6;clear bw6 br6 bp6 hb6;go_wp2;go_roundg (17 - (6+1))
                  case measure=>omega
                  case rel=>exact⟨6+1,by omega,rfl,rfl,HB6,BR6,BP6,BW6⟩
                |7,_,hlt,BW5=>
                  have hd:decide ((7:Int)<((ln:Int)+8 - 1) / 8)=true:=decide_eq_true (by omega);have hq:(7<(rest.size:Int))=True:=eq_true (by have:=hlt0.out;omega);have hq':7<rest.size:=by have:=hlt0.out;omega
                  have hz: ∀ h:7<rest.size,((rest[7]'h).toNat:Int)=bt rest 7:=bt_at rest 7;have hc:=(blk_cell BW5.out 0).trans (rfl:_=some (Value.int .u64 (wd rest 0 7)));have hf:=blk_frozen BW5.out 0;have hwr:=wd_range rest 0 7 (by omega);have hrb:=bt_range rest 7;go_wp2;go_region;clear hc hf hwr hrb hz hd;rw [wd_or7 rest 0 (bt rest 7) rfl];have bw6:=blk_drew (blk_put BW5.out 0 (.int .u64 (wd rest 0 8)) rfl);have br6:=blk_drew (blk_far BR5.out (p:=⟨gw,0,none⟩) (by simpa using fun e=>HGW.out.1 e.symm) (.int .u64 (wd rest 0 8)));have bp6:=blk_drew (blk_far BP5.out (p:=⟨gw,0,none⟩) (by simpa using fun e=>HGW.out.2.1 e.symm) (.int .u64 (wd rest 0 8)));have hb6:=below_drew1 (HB5.out.setCell (p:=⟨gw,0,none⟩) HGW.out.2.2 (.int .u64 (wd rest 0 8)));generalize (World.setCell _ ⟨gw,0,none⟩ (.int .u64 (wd rest 0 8))).drew=w6 at bw6 br6 bp6 hb6 ⊢;have BW6:=Aside0.mk bw6;have BR6:=Aside0.mk br6;have BP6:=Aside0.mk bp6;have HB6:=Aside0.mk hb6;clear bw6 br6 bp6 hb6;go_wp2;go_roundg (17 - (7+1))
                  case measure=>omega
                  case rel=>exact⟨7+1,by omega,rfl,rfl,HB6,BR6,BP6,BW6⟩
                |8,_,hlt,BW5=>
                  have hd:decide ((8:Int)<((ln:Int)+8 - 1) / 8)=true:=decide_eq_true (by omega);have hq:(8<(rest.size:Int))=True:=eq_true (by have:=hlt0.out;omega);have hq':8<rest.size:=by have:=hlt0.out;omega
                  have hz: ∀ h:8<rest.size,((rest[8]'h).toNat:Int)=bt rest 8:=bt_at rest 8;have hc:=(blk_cell BW5.out 1).trans (rfl:_=some (Value.int .u64 (wd rest 8 0)));have hf:=blk_frozen BW5.out 1;have hwr:=wd_range rest 8 0 (by omega);have hrb:=bt_range rest 8;go_wp2;go_region;clear hc hf hwr hrb hz hd;rw [wd_or rest 8 0 72057594037927936 (bt rest 8) (by omega) rfl rfl];have bw6:=blk_drew (blk_put BW5.out 1 (.int .u64 (wd rest 8 1)) rfl);have br6:=blk_drew (blk_far BR5.out (p:=⟨gw,1,none⟩) (by simpa using fun e=>HGW.out.1 e.symm) (.int .u64 (wd rest 8 1)));have bp6:=blk_drew (blk_far BP5.out (p:=⟨gw,1,none⟩) (by simpa using fun e=>HGW.out.2.1 e.symm) (.int .u64 (wd rest 8 1)));have hb6:=below_drew1 (HB5.out.setCell (p:=⟨gw,1,none⟩) HGW.out.2.2 (.int .u64 (wd rest 8 1)));generalize (World.setCell _ ⟨gw,1,none⟩ (.int .u64 (wd rest 8 1))).drew=w6 at bw6 br6 bp6 hb6 ⊢;have BW6:=Aside0.mk bw6;have BR6:=Aside0.mk br6;have BP6:=Aside0.mk bp6;have HB6:=Aside0.mk hb6;clear bw6 br6 bp6 hb6;go_wp2;go_roundg (17 - (8+1))
                  case measure=>omega
                  case rel=>exact⟨8+1,by omega,rfl,rfl,HB6,BR6,BP6,BW6⟩
                |9,_,hlt,BW5=>
                  have hd:decide ((9:Int)<((ln:Int)+8 - 1) / 8)=true:=decide_eq_true (by omega);have hq:(9<(rest.size:Int))=True:=eq_true (by have:=hlt0.out;omega);have hq':9<rest.size:=by have:=hlt0.out;omega
                  have hz: ∀ h:9<rest.size,((rest[9]'h).toNat:Int)=bt rest 9:=bt_at rest 9;have hc:=(blk_cell BW5.out 1).trans (rfl:_=some (Value.int .u64 (wd rest 8 1)));have hf:=blk_frozen BW5.out 1;have hwr:=wd_range rest 8 1 (by omega);have hrb:=bt_range rest 9;go_wp2;go_region;clear hc hf hwr hrb hz hd;rw [wd_or rest 8 1 281474976710656 (bt rest 9) (by omega) rfl rfl];have bw6:=blk_drew (blk_put BW5.out 1 (.int .u64 (wd rest 8 2)) rfl);have br6:=blk_drew (blk_far BR5.out (p:=⟨gw,1,none⟩) (by simpa using fun e=>HGW.out.1 e.symm) (.int .u64 (wd rest 8 2)));have bp6:=blk_drew (blk_far BP5.out (p:=⟨gw,1,none⟩) (by simpa using fun e=>HGW.out.2.1 e.symm) (.int .u64 (wd rest 8 2)));have hb6:=below_drew1 (HB5.out.setCell (p:=⟨gw,1,none⟩) HGW.out.2.2 (.int .u64 (wd rest 8 2)));generalize (World.setCell _ ⟨gw,1,none⟩ (.int .u64 (wd rest 8 2))).drew=w6 at bw6 br6 bp6 hb6 ⊢;have BW6:=Aside0.mk bw6;have BR6:=Aside0.mk br6;have BP6:=Aside0.mk bp6;have HB6:=Aside0.mk hb6;clear bw6 br6 bp6 hb6;go_wp2;go_roundg (17 - (9+1))
                  case measure=>omega
                  case rel=>exact⟨9+1,by omega,rfl,rfl,HB6,BR6,BP6,BW6⟩
                |10,_,hlt,BW5=>
                  have hd:decide ((10:Int)<((ln:Int)+8 - 1) / 8)=true:=decide_eq_true (by omega);have hq:(10<(rest.size:Int))=True:=eq_true (by have:=hlt0.out;omega);have hq':10<rest.size:=by have:=hlt0.out;omega
                  have hz: ∀ h:10<rest.size,((rest[10]'h).toNat:Int)=bt rest 10:=bt_at rest 10;have hc:=(blk_cell BW5.out 1).trans (rfl:_=some (Value.int .u64 (wd rest 8 2)));have hf:=blk_frozen BW5.out 1;have hwr:=wd_range rest 8 2 (by omega);have hrb:=bt_range rest 10;go_wp2;go_region;clear hc hf hwr hrb hz hd;rw [wd_or rest 8 2 1099511627776 (bt rest 10) (by omega) rfl rfl];have bw6:=blk_drew (blk_put BW5.out 1 (.int .u64 (wd rest 8 3)) rfl);have br6:=blk_drew (blk_far BR5.out (p:=⟨gw,1,none⟩) (by simpa using fun e=>HGW.out.1 e.symm) (.int .u64 (wd rest 8 3)));have bp6:=blk_drew (blk_far BP5.out (p:=⟨gw,1,none⟩) (by simpa using fun e=>HGW.out.2.1 e.symm) (.int .u64 (wd rest 8 3)));have hb6:=below_drew1 (HB5.out.setCell (p:=⟨gw,1,none⟩) HGW.out.2.2 (.int .u64 (wd rest 8 3)));generalize (World.setCell _ ⟨gw,1,none⟩ (.int .u64 (wd rest 8 3))).drew=w6 at bw6 br6 bp6 hb6 ⊢;have BW6:=Aside0.mk bw6;have BR6:=Aside0.mk br6;have BP6:=Aside0.mk bp6;have HB6:=Aside0.mk hb6;clear bw6 br6 bp6 hb6;go_wp2;go_roundg (17 - (10+1))
                  case measure=>omega
                  case rel=>exact⟨10+1,by omega,rfl,rfl,HB6,BR6,BP6,BW6⟩
                |11,_,hlt,BW5=>
                  have hd:decide ((11:Int)<((ln:Int)+8 - 1) / 8)=true:=decide_eq_true (by omega);have hq:(11<(rest.size:Int))=True:=eq_true (by have:=hlt0.out;omega);have hq':11<rest.size:=by have:=hlt0.out;omega
                  have hz: ∀ h:11<rest.size,((rest[11]'h).toNat:Int)=bt rest 11:=bt_at rest 11;have hc:=(blk_cell BW5.out 1).trans (rfl:_=some (Value.int .u64 (wd rest 8 3)));have hf:=blk_frozen BW5.out 1;have hwr:=wd_range rest 8 3 (by omega);have hrb:=bt_range rest 11;go_wp2;go_region;clear hc hf hwr hrb hz hd;rw [wd_or rest 8 3 4294967296 (bt rest 11) (by omega) rfl rfl];have bw6:=blk_drew (blk_put BW5.out 1 (.int .u64 (wd rest 8 4)) rfl);have br6:=blk_drew (blk_far BR5.out (p:=⟨gw,1,none⟩) (by simpa using fun e=>HGW.out.1 e.symm) (.int .u64 (wd rest 8 4)));have bp6:=blk_drew (blk_far BP5.out (p:=⟨gw,1,none⟩) (by simpa using fun e=>HGW.out.2.1 e.symm) (.int .u64 (wd rest 8 4)));have hb6:=below_drew1 (HB5.out.setCell (p:=⟨gw,1,none⟩) HGW.out.2.2 (.int .u64 (wd rest 8 4)));generalize (World.setCell _ ⟨gw,1,none⟩ (.int .u64 (wd rest 8 4))).drew=w6 at bw6 br6 bp6 hb6 ⊢;have BW6:=Aside0.mk bw6;have BR6:=Aside0.mk br6;have BP6:=Aside0.mk bp6;have HB6:=Aside0.mk hb6;clear bw6 br6 bp6 hb6;go_wp2;go_roundg (17 - (11+1))
                  case measure=>omega
                  case rel=>exact⟨11+1,by omega,rfl,rfl,HB6,BR6,BP6,BW6⟩
                |12,_,hlt,BW5=>
                  have hd:decide ((12:Int)<((ln:Int)+8 - 1) / 8)=true:=decide_eq_true (by omega);have hq:(12<(rest.size:Int))=True:=eq_true (by have:=hlt0.out;omega);have hq':12<rest.size:=by have:=hlt0.out;omega
                  have hz: ∀ h:12<rest.size,((rest[12]'h).toNat:Int)=bt rest 12:=bt_at rest 12;have hc:=(blk_cell BW5.out 1).trans (rfl:_=some (Value.int .u64 (wd rest 8 4)));have hf:=blk_frozen BW5.out 1;have hwr:=wd_range rest 8 4 (by omega);have hrb:=bt_range rest 12;go_wp2;go_region;clear hc hf hwr hrb hz hd;rw [wd_or rest 8 4 16777216 (bt rest 12) (by omega) rfl rfl];have bw6:=blk_drew (blk_put BW5.out 1 (.int .u64 (wd rest 8 5)) rfl);have br6:=blk_drew (blk_far BR5.out (p:=⟨gw,1,none⟩) (by simpa using fun e=>HGW.out.1 e.symm) (.int .u64 (wd rest 8 5)));have bp6:=blk_drew (blk_far BP5.out (p:=⟨gw,1,none⟩) (by simpa using fun e=>HGW.out.2.1 e.symm) (.int .u64 (wd rest 8 5)));have hb6:=below_drew1 (HB5.out.setCell (p:=⟨gw,1,none⟩) HGW.out.2.2 (.int .u64 (wd rest 8 5)));generalize (World.setCell _ ⟨gw,1,none⟩ (.int .u64 (wd rest 8 5))).drew=w6 at bw6 br6 bp6 hb6 ⊢;have BW6:=Aside0.mk bw6;have BR6:=Aside0.mk br6;have BP6:=Aside0.mk bp6;have HB6:=Aside0.mk hb6;clear bw6 br6 bp6 hb6;go_wp2;go_roundg (17 - (12+1))
                  case measure=>omega
                  case rel=>exact⟨12+1,by omega,rfl,rfl,HB6,BR6,BP6,BW6⟩
                |13,_,hlt,BW5=>
                  have hd:decide ((13:Int)<((ln:Int)+8 - 1) / 8)=true:=decide_eq_true (by omega);have hq:(13<(rest.size:Int))=True:=eq_true (by have:=hlt0.out;omega);have hq':13<rest.size:=by have:=hlt0.out;omega
                  have hz: ∀ h:13<rest.size,((rest[13]'h).toNat:Int)=bt rest 13:=bt_at rest 13;have hc:=(blk_cell BW5.out 1).trans (rfl:_=some (Value.int .u64 (wd rest 8 5)));have hf:=blk_frozen BW5.out 1;have hwr:=wd_range rest 8 5 (by omega);have hrb:=bt_range rest 13;go_wp2;go_region;clear hc hf hwr hrb hz hd;rw [wd_or rest 8 5 65536 (bt rest 13) (by omega) rfl rfl];have bw6:=blk_drew (blk_put BW5.out 1 (.int .u64 (wd rest 8 6)) rfl);have br6:=blk_drew (blk_far BR5.out (p:=⟨gw,1,none⟩) (by simpa using fun e=>HGW.out.1 e.symm) (.int .u64 (wd rest 8 6)));have bp6:=blk_drew (blk_far BP5.out (p:=⟨gw,1,none⟩) (by simpa using fun e=>HGW.out.2.1 e.symm) (.int .u64 (wd rest 8 6)));have hb6:=below_drew1 (HB5.out.setCell (p:=⟨gw,1,none⟩) HGW.out.2.2 (.int .u64 (wd rest 8 6)));generalize (World.setCell _ ⟨gw,1,none⟩ (.int .u64 (wd rest 8 6))).drew=w6 at bw6 br6 bp6 hb6 ⊢;have BW6:=Aside0.mk bw6;have BR6:=Aside0.mk br6;have BP6:=Aside0.mk bp6;have HB6:=Aside0.mk hb6;clear bw6 br6 bp6 hb6;go_wp2;go_roundg (17 - (13+1))
                  case measure=>omega
                  case rel=>exact⟨13+1,by omega,rfl,rfl,HB6,BR6,BP6,BW6⟩
                |14,_,hlt,BW5=>
                  have hd:decide ((14:Int)<((ln:Int)+8 - 1) / 8)=true:=decide_eq_true (by omega);have hq:(14<(rest.size:Int))=True:=eq_true (by have:=hlt0.out;omega);have hq':14<rest.size:=by have:=hlt0.out;omega
                  have hz: ∀ h:14<rest.size,((rest[14]'h).toNat:Int)=bt rest 14:=bt_at rest 14;have hc:=(blk_cell BW5.out 1).trans (rfl:_=some (Value.int .u64 (wd rest 8 6)));have hf:=blk_frozen BW5.out 1;have hwr:=wd_range rest 8 6 (by omega);have hrb:=bt_range rest 14;go_wp2;go_region;clear hc hf hwr hrb hz hd;rw [wd_or rest 8 6 256 (bt rest 14) (by omega) rfl rfl];have bw6:=blk_drew (blk_put BW5.out 1 (.int .u64 (wd rest 8 7)) rfl);have br6:=blk_drew (blk_far BR5.out (p:=⟨gw,1,none⟩) (by simpa using fun e=>HGW.out.1 e.symm) (.int .u64 (wd rest 8 7)));have bp6:=blk_drew (blk_far BP5.out (p:=⟨gw,1,none⟩) (by simpa using fun e=>HGW.out.2.1 e.symm) (.int .u64 (wd rest 8 7)));have hb6:=below_drew1 (HB5.out.setCell (p:=⟨gw,1,none⟩) HGW.out.2.2 (.int .u64 (wd rest 8 7)));generalize (World.setCell _ ⟨gw,1,none⟩ (.int .u64 (wd rest 8 7))).drew=w6 at bw6 br6 bp6 hb6 ⊢;have BW6:=Aside0.mk bw6;have BR6:=Aside0.mk br6;have BP6:=Aside0.mk bp6;have HB6:=Aside0.mk hb6;clear bw6 br6 bp6 hb6;go_wp2;go_roundg (17 - (14+1))
                  case measure=>omega
                  case rel=>exact⟨14+1,by omega,rfl,rfl,HB6,BR6,BP6,BW6⟩
                |15,_,hlt,BW5=>
                  have hd:decide ((15:Int)<((ln:Int)+8 - 1) / 8)=true:=decide_eq_true (by omega);have hq:(15<(rest.size:Int))=True:=eq_true (by have:=hlt0.out;omega);have hq':15<rest.size:=by have:=hlt0.out;omega
                  have hz: ∀ h:15<rest.size,((rest[15]'h).toNat:Int)=bt rest 15:=bt_at rest 15;have hc:=(blk_cell BW5.out 1).trans (rfl:_=some (Value.int .u64 (wd rest 8 7)));have hf:=blk_frozen BW5.out 1;have hwr:=wd_range rest 8 7 (by omega);have hrb:=bt_range rest 15;go_wp2;go_region;clear hc hf hwr hrb hz hd;rw [wd_or7 rest 8 (bt rest 15) rfl];have bw6:=blk_drew (blk_put BW5.out 1 (.int .u64 (wd rest 8 8)) rfl);have br6:=blk_drew (blk_far BR5.out (p:=⟨gw,1,none⟩) (by simpa using fun e=>HGW.out.1 e.symm) (.int .u64 (wd rest 8 8)));have bp6:=blk_drew (blk_far BP5.out (p:=⟨gw,1,none⟩) (by simpa using fun e=>HGW.out.2.1 e.symm) (.int .u64 (wd rest 8 8)));have hb6:=below_drew1 (HB5.out.setCell (p:=⟨gw,1,none⟩) HGW.out.2.2 (.int .u64 (wd rest 8 8)));generalize (World.setCell _ ⟨gw,1,none⟩ (.int .u64 (wd rest 8 8))).drew=w6 at bw6 br6 bp6 hb6 ⊢;have BW6:=Aside0.mk bw6;have BR6:=Aside0.mk br6;have BP6:=Aside0.mk bp6;have HB6:=Aside0.mk hb6;clear bw6 br6 bp6 hb6;go_wp2;go_roundg (17 - (15+1))
                  case measure=>omega
                  case rel=>exact⟨15+1,by omega,rfl,rfl,HB6,BR6,BP6,BW6⟩
                |n+16,_,hlt,_=>exact absurd hlt (by have:=hc4.out;omega)
              · have hd:decide ((i:Int)<((ln:Int)+8 - 1) / 8)=false:=decide_eq_false (by omega);obtain rfl:i=(ln+7) / 8:=by omega
                have bw6:=BW5.out
                skip
                skip
                have hw0:=(blk_cell bw6 0).trans (rfl:_=some (Value.int .u64 (wd rest 0 (min 8 ((ln+7) / 8)))));have hw1:=(blk_cell bw6 1).trans (rfl:_=some (Value.int .u64 (wd rest 8 ((ln+7) / 8 - 8))));have hp0:=(blk_cell BP5.out 0).trans (rfl:_=some (Value.bool true));have hp1:=(blk_cell BP5.out 1).trans (rfl:_=some (Value.int .u64 0));have hp2:=(blk_cell BP5.out 2).trans (rfl:_=some (Value.int .u64 0));have hp3:=(blk_cell BP5.out 3).trans (rfl:_=some (Value.int .i64 ln));have hf0:=blk_frozen BP5.out 0;have hf1:=blk_frozen BP5.out 1;have hf2:=blk_frozen BP5.out 2;have hf3:=blk_frozen BP5.out 3
                skip
                have bp7:((World.setCell wr ⟨gp,1,none⟩ (.int .u64 (wd rest 0 (min 8 ((ln+7) / 8))))).setCell ⟨gp,2,none⟩ (.int .u64 (wd rest 8 ((ln+7) / 8 - 8)))).heap[gp]? =some (.cells #[.bool true,.int .u64 (wd rest 0 (min 8 ((ln+7) / 8))),.int .u64 (wd rest 8 ((ln+7) / 8 - 8)),.int .i64 ln] 30 (0,0)):=blk_put (blk_put BP5.out 1 (.int .u64 (wd rest 0 (min 8 ((ln+7) / 8)))) rfl) 2 (.int .u64 (wd rest 8 ((ln+7) / 8 - 8))) rfl;have hgg:w.heap.size≤gp:=by have:=HGP.out;have:=HGR.out;omega
                have br7:((World.setCell wr ⟨gp,1,none⟩ (.int .u64 (wd rest 0 (min 8 ((ln+7) / 8))))).setCell ⟨gp,2,none⟩ (.int .u64 (wd rest 8 ((ln+7) / 8 - 8)))).heap[gr]? =some (.cells #[.bool false,.int .u64 0,.int .u64 0,.int .i64 0] 30 (0,0)):=blk_far (blk_far BR5.out (p:=⟨gp,1,none⟩) (by have:=HGP.out;simp;omega) (.int .u64 (wd rest 0 (min 8 ((ln+7) / 8))))) (p:=⟨gp,2,none⟩) (by have:=HGP.out;simp;omega) (.int .u64 (wd rest 8 ((ln+7) / 8 - 8)));have hb7:Below w.heap.size w ((World.setCell wr ⟨gp,1,none⟩ (.int .u64 (wd rest 0 (min 8 ((ln+7) / 8))))).setCell ⟨gp,2,none⟩ (.int .u64 (wd rest 8 ((ln+7) / 8 - 8)))):=(HB5.out.setCell (p:=⟨gp,1,none⟩) hgg (.int .u64 (wd rest 0 (min 8 ((ln+7) / 8))))).setCell (p:=⟨gp,2,none⟩) hgg (.int .u64 (wd rest 8 ((ln+7) / 8 - 8)));have BP7:=Aside0.mk bp7;have BR7:=Aside0.mk br7;have HB7:=Aside0.mk hb7;clear bp7 br7 hb7;have hq0:=(blk_cell BP7.out 0).trans (rfl:_=some (Value.bool true));have hq1:=(blk_cell BP7.out 1).trans (rfl:_=some (Value.int .u64 (wd rest 0 (min 8 ((ln+7) / 8)))));have hq2:=(blk_cell BP7.out 2).trans (rfl:_=some (Value.int .u64 (wd rest 8 ((ln+7) / 8 - 8))));have hq3:=(blk_cell BP7.out 3).trans (rfl:_=some (Value.int .i64 ln));go_wp2_with (fail);refine (addr_Check.calls k true (wd rest 0 (min 8 ((ln+7) / 8))) (wd rest 8 ((ln+7) / 8 - 8)) ln c _ (by simpa using C.out)).mono ?_
                rintro e w8 ⟨rfl,hb⟩
                have BP8:=Aside0.mk (blk_below BP7.out hb);have BR8:=Aside0.mk (blk_below BR7.out hb);have HB8:=Aside0.mk (below_step HB7.out hb);clear hb hq0 hq1 hq2 hq3 hw0 hw1 hp0 hp1 hp2 hp3 hf0 hf1 hf2 hf3;have hr0:=(blk_cell BR8.out 0).trans rfl;have hr1:=(blk_cell BR8.out 1).trans rfl;have hr2:=(blk_cell BR8.out 2).trans rfl;have hr3:=(blk_cell BR8.out 3).trans rfl;have hf0:=blk_frozen BR8.out 0;have hf1:=blk_frozen BR8.out 1;have hf2:=blk_frozen BR8.out 2;have hf3:=blk_frozen BR8.out 3;have hge:w.heap.size≤gr:=by have:=HGR.out;omega
                by_cases hc:c=0
                · subst hc;have h:=H.out;rw [if_pos rfl]at h;simp only[Option.some.injEq,Prod.mk.injEq]at h;obtain⟨rfl,rfl,rfl,rfl,rfl,rfl⟩:=h;have hp0:=(blk_cell BP8.out 0).trans (rfl:_=some (Value.bool true));have hp1:=(blk_cell BP8.out 1).trans (rfl:_=some (Value.int .u64 (wd rest 0 (min 8 ((ln+7) / 8)))));have hp2:=(blk_cell BP8.out 2).trans (rfl:_=some (Value.int .u64 (wd rest 8 ((ln+7) / 8 - 8))));have hp3:=(blk_cell BP8.out 3).trans (rfl:_=some (Value.int .i64 ln));obtain⟨n,hn7⟩: ∃ n:Nat,(((ln:Int)+8 - 1) / 8)=(n:Int):=⟨(ln+7) / 8,by omega⟩;have HN:Aside0 (n=(ln+7) / 8):=⟨by omega⟩;have hn8:n≤rest.size:=by have:=hlt0.out;have:=HN.out;omega
                  have hn9:(0≤(n:Int))=True:=eq_true (by omega);rw [hn7];clear hn7;go_wp2;go_region;go_wp2;obtain rfl:=HN.out;refine bodyPost_ret (results_ctt rfl _ _ gr 30 #[.bool true,.int .u64 (wd rest 0 (min 8 ((ln+7) / 8))),.int .u64 (wd rest 8 ((ln+7) / 8 - 8)),.int .i64 ln] (0,0) _ rfl (blk_put (blk_put (blk_put (blk_put BR8.out 0 (.bool true) rfl) 1 (.int .u64 (wd rest 0 (min 8 ((ln+7) / 8)))) rfl) 2 (.int .u64 (wd rest 8 ((ln+7) / 8 - 8))) rfl) 3 (.int .i64 ln) rfl) Try.underlying30 rfl (by kernel_rfl)) rfl ?_;exact⟨rfl,below_drew1 ((((HB8.out.setCell (p:=⟨gr,0,none⟩) hge _).setCell (p:=⟨gr,1,none⟩) hge _).setCell (p:=⟨gr,2,none⟩) hge _).setCell (p:=⟨gr,3,none⟩) hge _)⟩
                ·have h:=H.out;rw [if_neg hc]at h;have hcb:(c !=0)=true:=bne_iff_ne.mpr hc;simp only[pfx_none,Option.some.injEq,Prod.mk.injEq]at h;obtain⟨rfl,rfl,rfl,rfl,rfl,rfl⟩:=h;go_wp2;refine bodyPost_ret (results_ctt rfl _ _ gr 30 #[.bool false,.int .u64 0,.int .u64 0,.int .i64 0] (0,0) _ rfl (blk_put (blk_put (blk_put (blk_put BR8.out 0 (.bool false) rfl) 1 (.int .u64 0) rfl) 2 (.int .u64 0) rfl) 3 (.int .i64 0) rfl) Try.underlying30 rfl (by kernel_rfl)) rfl ?_;exact⟨rfl,(((HB8.out.setCell (p:=⟨gr,0,none⟩) hge _).setCell (p:=⟨gr,1,none⟩) hge _).setCell (p:=⟨gr,2,none⟩) hge _).setCell (p:=⟨gr,3,none⟩) hge _⟩
      ·rw [if_neg c2']at h;simp only[pfx_none,Option.some.injEq,Prod.mk.injEq]at h;obtain⟨rfl,rfl,rfl,rfl,rfl,rfl⟩:=h;have c2b:(bt a0 0 !=4)=true:=bne_iff_ne.mpr c2;have c2d:(bt a0 0 !=6)=true:=bne_iff_ne.mpr c2';go_enter Try.func36,Try.ntmps36;go_wp2;refine bodyPost_ret (results_ctt rfl _ _ w.heap.size 30 #[.bool false,.int .u64 0,.int .u64 0,.int .i64 0] (0,0) _ rfl (heap_alloc_new _ _) Try.underlying30 rfl (by kernel_rfl)) rfl ?_;exact⟨rfl,below_alloc (Below.refl _ _) _⟩
def IsS85 (w0 W:World) (g:Nat) (f0:ByteArray) (f1:Int):Prop:=W.heap[g]? =some (.cells #[.string f0,.int .i64 f1] 85 (0,0))∧w0.heap.size≤g
theorem IsS85.grown {w0 W:World}{g:Nat}{f0:ByteArray}{f1:Int}{W1:World}{row:Option Nat} (h:IsS85 w0 W g f0 f1) (hw:W.grownBy W1 row) (hne:some g≠row):IsS85 w0 W1 g f0 f1:=by
  obtain⟨hb,hg⟩:=h;exact⟨blk_grown hb hw hne,hg⟩
theorem IsS85.kept {w0 W:World}{g:Nat}{f0:ByteArray}{f1:Int}{W1:World}{S:Nat→Prop} (h:IsS85 w0 W g f0 f1) (hk:Kept W W1 S) (hne: ¬ S g):IsS85 w0 W1 g f0 f1:=by
  obtain⟨hb,hg⟩:=h;exact⟨blk_kept hb hk hne,hg⟩
theorem IsS85.below {w0 W:World}{g:Nat}{f0:ByteArray}{f1:Int}{W1:World} (h:IsS85 w0 W g f0 f1) (hw:Below W.heap.size W W1):IsS85 w0 W1 g f0 f1:=h.grown (grown_of_below hw none) (by simp)
theorem IsS85.alloc {w0 W:World}{g:Nat}{f0:ByteArray}{f1:Int} (h:IsS85 w0 W g f0 f1) (o:Obj):IsS85 w0 (W.alloc o) g f0 f1:=h.below (below_alloc (Below.refl _ _) o)
theorem IsS85.drewN {w0 W:World}{g:Nat}{f0:ByteArray}{f1:Int} (h:IsS85 w0 W g f0 f1) (m:Nat):IsS85 w0 (W.drewN m) g f0 f1:=h
theorem IsS85.drew {w0 W:World}{g:Nat}{f0:ByteArray}{f1:Int} (h:IsS85 w0 W g f0 f1):IsS85 w0 W.drew g f0 f1:=h
theorem IsS85.at_ {w0 W:World}{g:Nat}{f0:ByteArray}{f1:Int}{w':World}{m:Nat} (hq:W.drewN m=w') (h:IsS85 w0 W g f0 f1):IsS85 w0 w' g f0 f1:=by subst hq;exact IsS85.drewN h m
theorem IsS85.apart {w0 W:World}{g:Nat}{f0:ByteArray}{f1:Int}{α:Type}{d:Kd α}{e:Nat}{base:Nat}{ok:Nat→Prop}{v:Value}{xs:List α} (h:IsS85 w0 W g f0 f1) (ho:d.R e W base ok v xs) (ht: ∀ q,q∈e :: d.E→q≠85):d.R e W base (fun k=>ok k∧k≠g) v xs:=by
  obtain⟨hb,hg⟩:=h;exact Kd.R_types ho hb ht
theorem IsS85.own_ne {w0 W:World}{g:Nat}{f0:ByteArray}{f1:Int}{α:Type}{d:Kd α}{e:Nat}{base:Nat}{ok:Nat→Prop}{v:Value}{xs:List α} (h:IsS85 w0 W g f0 f1) (ho:d.R e W base ok v xs) (ht:e≠85):some g≠v.ownBlock:=by
  obtain⟨hb,hg⟩:=h;exact Kd.R_ne ho hb ht
theorem IsS85.lt {w0 W:World}{g:Nat}{f0:ByteArray}{f1:Int} (h:IsS85 w0 W g f0 f1):g<W.heap.size:=by
  obtain⟨hb,hg⟩:=h;exact blk_lt hb
theorem IsS85.ge {w0 W:World}{g:Nat}{f0:ByteArray}{f1:Int} (h:IsS85 w0 W g f0 f1):w0.heap.size≤g:=by
  obtain⟨hb,hg⟩:=h;exact hg
theorem IsS85.far {w0 W:World}{g:Nat}{f0:ByteArray}{f1:Int}{p:Addr} (h:IsS85 w0 W g f0 f1) (hne:g≠p.block) (u:Value):IsS85 w0 (W.setCell p u) g f0 f1:=by
  obtain⟨hb,hg⟩:=h;exact⟨blk_far hb hne u,hg⟩
theorem cellS85_0 {W:World}{g:Nat}{f0:ByteArray}{f1:Int} (h:W.heap[g]? =some (.cells #[.string f0,.int .i64 f1] 85 (0,0))):W.cell? ⟨g,0,none⟩=some (.string f0):=(blk_cell h 0).trans rfl
theorem IsS85.set_0 {w0 W:World}{g:Nat}{f0:ByteArray}{f1:Int} (h:IsS85 w0 W g f0 f1) (x:ByteArray):IsS85 w0 (W.setCell ⟨g,0,none⟩ (.string x)) g x f1:=by
  obtain⟨hb,hg⟩:=h;exact⟨by simpa using blk_set hb 0 (.string x),hg⟩
theorem cellS85_1 {W:World}{g:Nat}{f0:ByteArray}{f1:Int} (h:W.heap[g]? =some (.cells #[.string f0,.int .i64 f1] 85 (0,0))):W.cell? ⟨g,1,none⟩=some (.int .i64 f1):=(blk_cell h 1).trans rfl
theorem IsS85.set_1 {w0 W:World}{g:Nat}{f0:ByteArray}{f1:Int} (h:IsS85 w0 W g f0 f1) (x:Int):IsS85 w0 (W.setCell ⟨g,1,none⟩ (.int .i64 x)) g f0 x:=by
  obtain⟨hb,hg⟩:=h;exact⟨by simpa using blk_set hb 1 (.int .i64 x),hg⟩
theorem IsS85.new (w0 W:World) (f0:ByteArray) (f1:Int) (hB:Below w0.heap.size w0 W):IsS85 w0 (W.alloc (.cells #[.string f0,.int .i64 f1] 85)) W.heap.size f0 f1:=⟨by simpa using heap_alloc_new W _,hB.size⟩
def api_Prefix.f (k:Nat) (s0_0:ByteArray) (s0_1:Int):Option (Bool × Int × Int × Int × ByteArray × Int):=(msg_GetPrefix.f k s0_0).bind fun t=>some (t.1,t.2.1,t.2.2.1,t.2.2.2.1,(if s0_1=0 then t.2.2.2.2.1 else s0_0),(if s0_1=0 then t.2.2.2.2.2 else s0_1))
theorem api_Prefix.mono: ∀ a0 a1 k,LeO (api_Prefix.f k a0 a1) (api_Prefix.f (k+1) a0 a1):=by
  intro a0 a1 k;unfold api_Prefix.f
  repeat' first
      | (with_reducible exact msg_GetPrefix.mono _ _)
      | (with_reducible exact LeO.refl _)
      | (with_reducible exact LeO.none _)
      | (with_reducible refine LeO.ite ?_ ?_)
      | (with_reducible refine LeO.bind ?_ (fun _ => ?_))
      | exact msg_GetPrefix.mono _ _
      | exact LeO.none _
      | refine LeO.ite ?_ ?_
      | refine LeO.bind ?_ (fun _ => ?_)
set_option maxHeartbeats 8000000 in
set_option maxRecDepth 100000 in
theorem api_Prefix.calls0 (k g:Nat) (s:ByteArray) (y:Int) (r1:Bool) (r2:Int) (r3:Int) (r4:Int) (r5:ByteArray) (r6:Int) (w0 w:World) (hI:IsS85 w0 w g s y) (hB:Below w0.heap.size w0 w) (h:msg_GetPrefix.f k s=some (r1,r2,r3,r4,r5,r6)):
    Calls Try.prog 35 #[.pointer (some ⟨g,0,none⟩),.func (.func 36) #[] #[]] w fun e w'=>e= .returned (.agg #[.bool r1,.int .u64 r2,.int .u64 r3,.int .i64 r4])∧IsS85 w0 w' g (if y=0 then r5 else s) (if y=0 then r6 else y)∧Below w0.heap.size w0 w'∧KeepBut w w' g none:=by
  have HI0:=Aside0.mk hI;have HB0:=Aside0.mk hB;have H:=Aside0.mk h;have hgz:=hI.1;have hc0:=cellS85_0 hgz;have hca:(w.alloc (.cells #[.bool false,.int .u64 0,.int .u64 0,.int .i64 0] 30)).cell? ⟨g,0,none⟩=some (.string s):=(blk_cell (blk_alloc hgz _) 0).trans rfl;have hlg:=Aside0.mk (blk_lt hgz);clear h hI hB hgz;go_enter Try.func35,Try.ntmps35;go_wp2_with (fail);refine (msg_GetPrefix.calls k s r1 r2 r3 r4 r5 r6 _ H.out).mono ?_
  rintro e w5 ⟨rfl,hb⟩
  have BG5:=Aside0.mk (blk_below (blk_alloc HI0.out.1 (.cells #[.bool false,.int .u64 0,.int .u64 0,.int .i64 0] 30)) hb);have BR5:=Aside0.mk (blk_below (heap_alloc_new w (.cells #[.bool false,.int .u64 0,.int .u64 0,.int .i64 0] 30)) hb);have HB5:=Aside0.mk (below_step (below_alloc HB0.out (.cells #[.bool false,.int .u64 0,.int .u64 0,.int .i64 0] 30)) hb);have HK5:=Aside0.mk (KeepBut.of_below (below_step (below_alloc (Below.refl w.heap.size w) (.cells #[.bool false,.int .u64 0,.int .u64 0,.int .i64 0] 30)) hb) g none);have hL5:Aside0 (w.heap.size<w5.heap.size):=⟨Nat.lt_of_lt_of_le (blk_lt (heap_alloc_new w _)) hb.size⟩;clear hb hc0 hca;obtain⟨gr,hgr⟩: ∃ gr,w.heap.size=gr:=⟨_,rfl⟩;have HGR:=Aside0.mk hgr;have BR5':=Aside0.mk (hgr▸BR5.out);rw [hgr];clear BR5 hgr;have BP6:=Aside0.mk (heap_alloc_new w5 (.cells #[.bool r1,.int .u64 r2,.int .u64 r3,.int .i64 r4] 30));have BR6:=Aside0.mk (blk_alloc BR5'.out (.cells #[.bool r1,.int .u64 r2,.int .u64 r3,.int .i64 r4] 30));have BG6:=Aside0.mk (blk_alloc BG5.out (.cells #[.bool r1,.int .u64 r2,.int .u64 r3,.int .i64 r4] 30));have HB6:=Aside0.mk (below_alloc HB5.out (.cells #[.bool r1,.int .u64 r2,.int .u64 r3,.int .i64 r4] 30));have HK6:=Aside0.mk (keep_alloc HK5.out (.cells #[.bool r1,.int .u64 r2,.int .u64 r3,.int .i64 r4] 30));by_cases hy:y=0
  · subst hy;have ngr:g≠gr:=by have:=hlg.out;have:=HGR.out;omega
    have ng5:g≠w5.heap.size:=fun e=>by have:=blk_lt BG5.out;omega
    have hg0:=(blk_cell BG6.out 0).trans rfl;have hg1:=(blk_cell BG6.out 1).trans rfl;have hgf0:=blk_frozen BG6.out 0;have hgf1:=blk_frozen BG6.out 1;have BG7:=Aside0.mk (blk_put (blk_put BG6.out 0 (.string r5) rfl) 1 (.int .i64 r6) rfl);have BP7:=Aside0.mk (blk_far (blk_far BP6.out (p:=⟨g,0,none⟩) (by simpa using fun e=>ng5 e.symm) (.string r5)) (p:=⟨g,1,none⟩) (by simpa using fun e=>ng5 e.symm) (.int .i64 r6));have BR7:=Aside0.mk (blk_far (blk_far BR6.out (p:=⟨g,0,none⟩) (by simpa using fun e=>ngr e.symm) (.string r5)) (p:=⟨g,1,none⟩) (by simpa using fun e=>ngr e.symm) (.int .i64 r6));have HB7:=Aside0.mk ((HB6.out.setCell (p:=⟨g,0,none⟩) HI0.out.2 (.string r5)).setCell (p:=⟨g,1,none⟩) HI0.out.2 (.int .i64 r6));have HK7:=Aside0.mk ((HK6.out.set_ 0 (.string r5)).set_ 1 (.int .i64 r6));have hp0:=(blk_cell BP7.out 0).trans (rfl:_=some (Value.bool r1));have hp1:=(blk_cell BP7.out 1).trans (rfl:_=some (Value.int .u64 r2));have hp2:=(blk_cell BP7.out 2).trans (rfl:_=some (Value.int .u64 r3));have hp3:=(blk_cell BP7.out 3).trans (rfl:_=some (Value.int .i64 r4));have hr0:=(blk_cell BR7.out 0).trans (rfl:_=some (Value.bool false));have hr1:=(blk_cell BR7.out 1).trans (rfl:_=some (Value.int .u64 0));have hr2:=(blk_cell BR7.out 2).trans (rfl:_=some (Value.int .u64 0));have hr3:=(blk_cell BR7.out 3).trans (rfl:_=some (Value.int .i64 0));have hf0:=blk_frozen BR7.out 0;have hf1:=blk_frozen BR7.out 1;have hf2:=blk_frozen BR7.out 2;have hf3:=blk_frozen BR7.out 3;go_wp2_with (fail);refine bodyPost_ret (results_cell_row rfl _ _ gr 30 #[.bool r1,.int .u64 r2,.int .u64 r3,.int .i64 r4] (0,0) _ rfl (blk_put (blk_put (blk_put (blk_put (BR7.out) 0 (.bool r1) rfl) 1 (.int .u64 r2) rfl) 2 (.int .u64 r3) rfl) 3 (.int .i64 r4) rfl) Try.underlying30 rfl (by kernel_rfl)) rfl ?_;have hgw:w0.heap.size≤gr:=by have:=HGR.out;have:=HB0.out.size;omega
    refine⟨rfl,⟨?_,HI0.out.2⟩,?_,?_⟩
    · simpa using blk_far (blk_far (blk_far (blk_far (BG7.out) (p:=⟨gr,0,none⟩) (by simpa using ngr) _) (p:=⟨gr,1,none⟩) (by simpa using ngr) _) (p:=⟨gr,2,none⟩) (by simpa using ngr) _) (p:=⟨gr,3,none⟩) (by simpa using ngr) _
    · exact ((((HB7.out).setCell (p:=⟨gr,0,none⟩) hgw _).setCell (p:=⟨gr,1,none⟩) hgw _).setCell (p:=⟨gr,2,none⟩) hgw _).setCell (p:=⟨gr,3,none⟩) hgw _
    · exact keep_far (keep_far (keep_far (keep_far (HK7.out) (p:=⟨gr,0,none⟩) (by have:=HGR.out;simp;omega) _) (p:=⟨gr,1,none⟩) (by have:=HGR.out;simp;omega) _) (p:=⟨gr,2,none⟩) (by have:=HGR.out;simp;omega) _) (p:=⟨gr,3,none⟩) (by have:=HGR.out;simp;omega) _
  · skip
    have ngr:g≠gr:=by have:=hlg.out;have:=HGR.out;omega
    have ng5:g≠w5.heap.size:=fun e=>by have:=blk_lt BG5.out;omega
    have BG7:=BG6;have BP7:=BP6;have BR7:=BR6;have HB7:=HB6;have HK7:=HK6;have hg1:=(blk_cell BG6.out 1).trans rfl;have hyb:(y==0)=false:=beq_eq_false_iff_ne.mpr hy;have hp0:=(blk_cell BP7.out 0).trans (rfl:_=some (Value.bool r1));have hp1:=(blk_cell BP7.out 1).trans (rfl:_=some (Value.int .u64 r2));have hp2:=(blk_cell BP7.out 2).trans (rfl:_=some (Value.int .u64 r3));have hp3:=(blk_cell BP7.out 3).trans (rfl:_=some (Value.int .i64 r4));have hr0:=(blk_cell BR7.out 0).trans (rfl:_=some (Value.bool false));have hr1:=(blk_cell BR7.out 1).trans (rfl:_=some (Value.int .u64 0));have hr2:=(blk_cell BR7.out 2).trans (rfl:_=some (Value.int .u64 0));have hr3:=(blk_cell BR7.out 3).trans (rfl:_=some (Value.int .i64 0));have hf0:=blk_frozen BR7.out 0;have hf1:=blk_frozen BR7.out 1;have hf2:=blk_frozen BR7.out 2;have hf3:=blk_frozen BR7.out 3;go_wp2_with (fail);refine bodyPost_ret (results_cell_row rfl _ _ gr 30 #[.bool r1,.int .u64 r2,.int .u64 r3,.int .i64 r4] (0,0) _ rfl (blk_put (blk_put (blk_put (blk_put (BR7.out) 0 (.bool r1) rfl) 1 (.int .u64 r2) rfl) 2 (.int .u64 r3) rfl) 3 (.int .i64 r4) rfl) Try.underlying30 rfl (by kernel_rfl)) rfl ?_;have hgw:w0.heap.size≤gr:=by have:=HGR.out;have:=HB0.out.size;omega
    refine⟨rfl,⟨?_,HI0.out.2⟩,?_,?_⟩
    · simpa [hy] using blk_far (blk_far (blk_far (blk_far (BG7.out) (p:=⟨gr,0,none⟩) (by simpa using ngr) _) (p:=⟨gr,1,none⟩) (by simpa using ngr) _) (p:=⟨gr,2,none⟩) (by simpa using ngr) _) (p:=⟨gr,3,none⟩) (by simpa using ngr) _
    · exact ((((HB7.out).setCell (p:=⟨gr,0,none⟩) hgw _).setCell (p:=⟨gr,1,none⟩) hgw _).setCell (p:=⟨gr,2,none⟩) hgw _).setCell (p:=⟨gr,3,none⟩) hgw _
    · exact keep_far (keep_far (keep_far (keep_far (HK7.out) (p:=⟨gr,0,none⟩) (by have:=HGR.out;simp;omega) _) (p:=⟨gr,1,none⟩) (by have:=HGR.out;simp;omega) _) (p:=⟨gr,2,none⟩) (by have:=HGR.out;simp;omega) _) (p:=⟨gr,3,none⟩) (by have:=HGR.out;simp;omega) _
theorem api_Prefix.calls (k:Nat) (g:Nat) (s0_0:ByteArray) (s0_1:Int) (r1:Bool) (r2:Int) (r3:Int) (r4:Int) (r5:ByteArray) (r6:Int) (w0 w:World) (hI:IsS85 w0 w g s0_0 s0_1) (hB:Below w0.heap.size w0 w) (h:api_Prefix.f k s0_0 s0_1=some (r1,r2,r3,r4,r5,r6)):
    Calls Try.prog 35 #[.pointer (some ⟨g,0,none⟩),.func (.func 36) #[] #[]] w fun e w'=>e= .returned (.agg #[.bool r1,.int .u64 r2,.int .u64 r3,.int .i64 r4])∧IsS85 w0 w' g r5 r6∧Below w0.heap.size w0 w'∧KeepBut w w' g none:=by
  obtain⟨⟨t1,t2,t3,t4,t5,t6⟩,ht,h⟩:=Option.bind_eq_some_iff.mp h;simp only[Option.some.injEq,Prod.mk.injEq]at h;obtain⟨rfl,rfl,rfl,rfl,rfl,rfl⟩:=h;exact api_Prefix.calls0 k g s0_0 s0_1 t1 t2 t3 t4 t5 t6 w0 w hI hB ht
mutual
def num_Get.l0 : Nat → ByteArray → Int → Int → Int → Option (Int × ByteArray × Int)
 | 0, _, _, _, _ => none
 | k + 1, x0, x5, x10, x11 => if x11 < x10 then (if 0 ≤ x11 then (if x11 < (x0.size : Int) then (if 0 ≤ (wrap64 (7 * x11)) then (if x11 = 9 then (num_Get.j1 k x0 (Go.bits .or .u64 x5 (shl .u64 (IntKind.u64.wrap (Go.bits .andNot .u8 (bt x0 x11) 128)) (wrap64 (7 * x11)))) x11 (bt x0 x11) x10 x11 (decide ((bt x0 x11) > 1))) else (num_Get.j1 k x0 (Go.bits .or .u64 x5 (shl .u64 (IntKind.u64.wrap (Go.bits .andNot .u8 (bt x0 x11) 128)) (wrap64 (7 * x11)))) x11 (bt x0 x11) x10 x11 false)) else (none)) else (none)) else (none)) else (some (0, (⟨#[]⟩ : ByteArray), 5))
def num_Get.j1 : Nat → ByteArray → Int → Int → Int → Int → Int → Bool → Option (Int × ByteArray × Int)
 | 0, _, _, _, _, _, _, _ => none
 | k + 1, x0, x5, x6, x7, x10, x11, x25 => if x25 = true then (num_Get.j2 k x0 x5 x6 x7 x10 x11 x25) else (if x7 = 0 then (num_Get.j2 k x0 x5 x6 x7 x10 x11 (decide (x6 > 0))) else (num_Get.j2 k x0 x5 x6 x7 x10 x11 false))
def num_Get.j2 : Nat → ByteArray → Int → Int → Int → Int → Int → Bool → Option (Int × ByteArray × Int)
 | 0, _, _, _, _, _, _, _ => none
 | k + 1, x0, x5, x6, x7, x10, x11, x25 => if x25 = true then (some (0, (⟨#[]⟩ : ByteArray), 7)) else (if x7 < 128 then (if 0 ≤ (wrap64 (x6 + 1)) then (if (wrap64 (x6 + 1)) ≤ (x0.size : Int) then (some (x5, x0.extract ((wrap64 (x6 + 1)) : Int).toNat x0.size, 0)) else (none)) else (none)) else (num_Get.l0 k x0 x5 x10 (wrap64 (x11 + 1))))
end
def num_Get.f (k:Nat) (a0:ByteArray):Option (Int × ByteArray × Int):=num_Get.l0 k a0 0 (mn (a0.size:Int) 10) 0
theorem num_Get.mono_l: ∀ k,(∀ y0 y1 y2 y3,LeO (num_Get.l0 k y0 y1 y2 y3) (num_Get.l0 (k+1) y0 y1 y2 y3))∧(∀ y0 y1 y2 y3 y4 y5 y6,LeO (num_Get.j1 k y0 y1 y2 y3 y4 y5 y6) (num_Get.j1 (k+1) y0 y1 y2 y3 y4 y5 y6))∧(∀ y0 y1 y2 y3 y4 y5 y6,LeO (num_Get.j2 k y0 y1 y2 y3 y4 y5 y6) (num_Get.j2 (k+1) y0 y1 y2 y3 y4 y5 y6))
 |0=>⟨fun _ _ _ _ r h=>by simp [num_Get.l0]at h,fun _ _ _ _ _ _ _ r h=>by simp [num_Get.j1]at h,fun _ _ _ _ _ _ _ r h=>by simp [num_Get.j2]at h⟩
 |k+1=>by
  obtain⟨ih0,ih1,ih2⟩:=num_Get.mono_l k;refine⟨?_,?_,?_⟩
  ·intro y0 y1 y2 y3;unfold num_Get.l0
   repeat' first
   |(with_reducible exact ih0 _ _ _ _)
   |(with_reducible exact ih1 _ _ _ _ _ _ _)
   |(with_reducible exact ih2 _ _ _ _ _ _ _)
   |(with_reducible exact LeO.refl _)
   |(with_reducible exact LeO.none _)
   |(with_reducible refine LeO.ite ?_ ?_)
   |(with_reducible refine LeO.bind ?_ (fun _=>?_))
   |exact ih0 _ _ _ _
   |exact ih1 _ _ _ _ _ _ _
   |exact ih2 _ _ _ _ _ _ _
   |exact LeO.none _
   |refine LeO.ite ?_ ?_
   |refine LeO.bind ?_ (fun _=>?_)
  ·intro y0 y1 y2 y3 y4 y5 y6;unfold num_Get.j1
   repeat' first
   |(with_reducible exact ih0 _ _ _ _)
   |(with_reducible exact ih1 _ _ _ _ _ _ _)
   |(with_reducible exact ih2 _ _ _ _ _ _ _)
   |(with_reducible exact LeO.refl _)
   |(with_reducible exact LeO.none _)
   |(with_reducible refine LeO.ite ?_ ?_)
   |(with_reducible refine LeO.bind ?_ (fun _=>?_))
   |exact ih0 _ _ _ _
   |exact ih1 _ _ _ _ _ _ _
   |exact ih2 _ _ _ _ _ _ _
   |exact LeO.none _
   |refine LeO.ite ?_ ?_
   |refine LeO.bind ?_ (fun _=>?_)
  ·intro y0 y1 y2 y3 y4 y5 y6;unfold num_Get.j2
   repeat' first
   |(with_reducible exact ih0 _ _ _ _)
   |(with_reducible exact ih1 _ _ _ _ _ _ _)
   |(with_reducible exact ih2 _ _ _ _ _ _ _)
   |(with_reducible exact LeO.refl _)
   |(with_reducible exact LeO.none _)
   |(with_reducible refine LeO.ite ?_ ?_)
   |(with_reducible refine LeO.bind ?_ (fun _=>?_))
   |exact ih0 _ _ _ _
   |exact ih1 _ _ _ _ _ _ _
   |exact ih2 _ _ _ _ _ _ _
   |exact LeO.none _
   |refine LeO.ite ?_ ?_
   |refine LeO.bind ?_ (fun _=>?_)
theorem num_Get.mono: ∀ a0 k,LeO (num_Get.f k a0) (num_Get.f (k+1) a0):=by
 intro a0 k;obtain⟨ih0,ih1,ih2⟩:=num_Get.mono_l k;unfold num_Get.f
 repeat' first
   | (with_reducible exact ih0 _ _ _ _)
   | (with_reducible exact ih1 _ _ _ _ _ _ _)
   | (with_reducible exact ih2 _ _ _ _ _ _ _)
   | (with_reducible exact LeO.refl _)
   | (with_reducible exact LeO.none _)
   | (with_reducible refine LeO.ite ?_ ?_)
   | (with_reducible refine LeO.bind ?_ (fun _ => ?_))
   | exact ih0 _ _ _ _
   | exact ih1 _ _ _ _ _ _ _
   | exact ih2 _ _ _ _ _ _ _
   | exact LeO.none _
   | refine LeO.ite ?_ ?_
   | refine LeO.bind ?_ (fun _ => ?_)
end Go.Proofs.Ythkdfojmhloofaa.Q
end
