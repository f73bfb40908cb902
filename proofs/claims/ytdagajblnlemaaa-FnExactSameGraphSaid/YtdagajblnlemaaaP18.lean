import Derived.Test.YtdagajblnlemaaaP17
namespace Go.Proofs.Ytdagajblnlemaaa
open Go Go.Ah Go.RowKit
set_option maxRecDepth 100000
set_option maxHeartbeats 4000000
theorem implPruned_ok (h : Heap) (v : Value) (l : List Node) (s : SlT h encNode 4 v l) (hl : l.length ≤ 281474976710656) : ACall Try.prog 12 [v] h fun r h' => Fresh h h' encNode 4 r (prunedF l) :=
  join_ok rfl (by kernel_rfl) (by kernel_rfl) (by kernel_rfl) (by kernel_rfl) (by kernel_rfl) (by kernel_rfl) h v l s hl
end Go.Proofs.Ytdagajblnlemaaa
