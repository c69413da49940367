/- Part of a proof. No condition. -/
import Derived.Test.YtllalbnibhofiaaGreatDoorZPb
import Derived.Test.YtllalbnibhofiaaGreatDoorAxF
set_option linter.unusedSimpArgs false
set_option linter.unusedVariables false
namespace Go.ZInst
open Go.Proofs Go.Ax Go.Pc
set_option maxRecDepth 100000
theorem e08 (c:Rep) (rows:List (List AV)) (i j:Nat):∃ rp:Rep,slP c rows i j = sl rp ((rows.take j).drop i):=by
 cases c with
 | some c=>exact ⟨some (c.map (·- i)),by rw [a7i];rfl⟩
 | none=>cases rows with
  | nil=>exact ⟨none,by simp [slP,sl]⟩
  | cons r rs=>exact ⟨some none,by rw [a7i];rfl⟩
theorem d4k {i n:Nat} (h:i ≤ n):inB (i:Int) n = true:=by simp [inB];omega
theorem e6v (k k':IntKind) (a b:Int):c9n (.int k a) [.int k' b] = some (.int k (if b < a then b else a)):=by rfl
theorem c3v (π:Nat → Option Nat) (k:Nat) (rows:List (List AV)):a11 π (.row k rows) = .row k (rows.map fun r=>r.map (ren π)):=by rfl
end Go.ZInst
