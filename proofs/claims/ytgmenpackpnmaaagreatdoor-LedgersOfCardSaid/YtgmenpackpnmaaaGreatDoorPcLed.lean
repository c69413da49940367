/- PcLed: what a ledger counts, test by test. Plain. -/
set_option linter.unusedSimpArgs false
set_option linter.unusedVariables false
namespace Go.Pc
def a2q (most:Int) (D:Nat → Bool):Nat → Int × Int
 | 0=>(-1,0)
 | t + 1=>if (a2q most D t).2 < most ∧ D t = true then (if (a2q most D t).2 = 0 then (t:Int) else (a2q most D t).1,(a2q most D t).2 + 1) else a2q most D t
theorem b76 (most:Int) (D:Nat → Bool):∀ t,0 ≤ (a2q most D t).2 ∧ (a2q most D t).2 ≤ t
 | 0=>by simp [a2q]
 | t + 1=>by
  have:=b76 most D t
  simp only [a2q]
  split
  ·constructor<;>simp only<;>omega
  ·omega
theorem c8e (most:Int) (D:Nat → Bool):∀ t,((a2q most D t).1 < 0 ↔ (a2q most D t).2 = 0)
 | 0=>by simp [a2q]
 | t + 1=>by
  have h:=c8e most D t
  have h2:=b76 most D t
  simp only [a2q]
  split
  ·split
   ·simp;omega
   ·simp only;constructor
    ·intro h3;rw [h] at h3;omega
    ·intro h3;omega
  ·exact h
theorem b75 {most:Int} {D:Nat → Bool} {t:Nat} (h:(a2q most D t).2 = most):∀ s,a2q most D (t + s) = a2q most D t
 | 0=>rfl
 | s + 1=>by
  have ih:=b75 h s
  have hn:¬ ((a2q most D (t + s)).2 < most ∧ D (t + s) = true):=fun hh=>by have:=hh.1;rw [ih,h] at this;omega
  have e:a2q most D (t + (s + 1)) = a2q most D (t + s):=by
   rw [show t + (s + 1) = (t + s) + 1 by omega]
   simp only [a2q,hn,if_false]
  rw [e,ih]
end Go.Pc
