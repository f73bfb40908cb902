import Derived.Test.YtbnppofkpgfhnaaS5
import Derived.Test.YtbnppofkpgfhnaaAhU
namespace Go.Proofs.Ytbnppofkpgfhnaa
open Go Go.Ah
set_option linter.unusedSimpArgs false
set_option linter.unusedVariables false
set_option maxRecDepth 10000
set_option maxHeartbeats 4000000
theorem markClipS_mine {a b : Nat} {h : Heap} {v : Value} {l : List Clip} (k : Int) (m : Mine a b h encClip 3 v l) (hl : l.length ≤ 1000000000) (hk : 0 ≤ k ∧ k ≤ 1000000000000) :
    ACall Try.prog 27 [v, .int .i64 k] h fun r h' => Chg a b h h' ∧ Mine a b h' encClip 3 v (markClip k l.length) ∧ r = .int .i64 (k + 3 * l.length) :=
  ACall.mine m (fun g o => markClipS_ok h g v l k o hl hk) (fun e => by rw [e]; rfl)
theorem editF_length (l : List Clip) : (editF l).1.length ≤ 300 := by
  unfold editF; split
  · rename_i h; exact h.2.1
  · simp
theorem toClip_ok' (h : Heap) (a b c : Int) : ACall Try.prog 63 [.agg [.int .i64 a, .int .i64 b, .int .i64 c].toArray] h fun r h' => Ext h h' ∧ r = .agg [.int .i64 a, .int .i64 b, .int .i64 c].toArray := toClip_ok h ⟨a, b, c⟩
end Go.Proofs.Ytbnppofkpgfhnaa
