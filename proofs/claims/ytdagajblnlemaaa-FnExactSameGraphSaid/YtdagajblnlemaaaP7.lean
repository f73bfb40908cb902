import Derived.Test.YtdagajblnlemaaaP6
namespace Go.Proofs.Ytdagajblnlemaaa
open Go Go.RowKit Go.Shelf
attribute [local go_sem] Oper.semAt_some
open Go.Ah in
set_option maxRecDepth 100000 in
set_option maxHeartbeats 2000000 in
theorem takes_in (F : Fence) (n : Nat) (h40 : F.fn 40) (hro : F.round = none) (k a b : Int) (v : Nat) (w : World) :
    CallsIn F n Try.prog 40 #[.agg #[.int .i64 k, .int .i64 a, .int .i64 b, .float .f64 v]] w fun e w' =>
      e = .returned (.tuple #[.bool (has1 k), .bool (has2 k), .bool (hasV k)]) ∧ w' = w.alloc (.cells #[.int .i64 k, .int .i64 a, .int .i64 b, .float .f64 v] 59) := by
  refine callsIn_of_wp Try.func40 rfl h40 ?_ hro
  simp only [Try.ntmps40, List.size_toArray, List.length_cons, List.length_nil, Nat.reduceAdd, Nat.reduceSub, Array.replicate_succ, Array.replicate_zero, List.push_toArray, List.append_toArray, List.nil_append, List.cons_append]
  by_cases k1 : k = 1
  · subst k1
    gi_wp2
    go_ret3
    exact ⟨rfl, rfl⟩
  by_cases k4 : k = 4
  · subst k4
    gi_wp2
    go_ret3
    exact ⟨rfl, rfl⟩
  by_cases k6 : k = 6
  · subst k6
    gi_wp2
    go_ret3
    exact ⟨rfl, rfl⟩
  by_cases k7 : k = 7
  · subst k7
    gi_wp2
    go_ret3
    exact ⟨rfl, rfl⟩
  have e1 : has1 k = true := by simp [has1, k1]
  have e2 : has2 k = false := by simp [has2, k4]
  have e3 : hasV k = true := by simp [hasV, k1, k6, k7]
  gi_wp2
  go_ret3
  exact ⟨by rw [e1, e2, e3]; rfl, rfl⟩
end Go.Proofs.Ytdagajblnlemaaa
