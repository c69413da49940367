/- PcLed: what a ledger counts, test by test. Plain. -/
set_option linter.unusedSimpArgs false
set_option linter.unusedVariables false
namespace Go.Pc
def a21 (most:Int) (D:Nat → Bool):Nat → Int × Int
 | 0=>(-1,0)
 | t + 1=>if (a21 most D t).2 < most ∧ D t = true then (if (a21 most D t).2 = 0 then (t:Int) else (a21 most D t).1,(a21 most D t).2 + 1) else a21 most D t
theorem a9r (most:Int) (D:Nat → Bool):∀ t,0 ≤ (a21 most D t).2 ∧ (a21 most D t).2 ≤ t
 | 0=>by simp [a21]
 | t + 1=>by
  have:=a9r most D t
  simp only [a21]
  split
  ·constructor<;>simp only<;>omega
  ·omega
theorem c4x (most:Int) (D:Nat → Bool):∀ t,((a21 most D t).1 < 0 ↔ (a21 most D t).2 = 0)
 | 0=>by simp [a21]
 | t + 1=>by
  have h:=c4x most D t
  have h2:=a9r most D t
  simp only [a21]
  split
  ·split
   ·simp;omega
   ·simp only;constructor
    ·intro h3;rw [h] at h3;omega
    ·intro h3;omega
  ·exact h
theorem b51 {most:Int} {D:Nat → Bool} {t:Nat} (h:(a21 most D t).2 = most):∀ s,a21 most D (t + s) = a21 most D t
 | 0=>rfl
 | s + 1=>by
  have ih:=b51 h s
  have hn:¬ ((a21 most D (t + s)).2 < most ∧ D (t + s) = true):=fun hh=>by have:=hh.1;rw [ih,h] at this;omega
  have e:a21 most D (t + (s + 1)) = a21 most D (t + s):=by
   rw [show t + (s + 1) = (t + s) + 1 by omega]
   simp only [a21,hn,if_false]
  rw [e,ih]
theorem b9z {n most:Int} (hn:1 ≤ n) (D:Nat → Bool):∀ t:Nat,(t:Int) ≤ most → (a21 n D t).1 = (a21 most D t).1 ∧ (a21 n D t).2 = min (a21 most D t).2 n
 | 0,_=>by simp only [a21,true_and];omega
 | t + 1,h=>by
  obtain ⟨h1,h2⟩:=b9z (most:=most) hn D t (by omega)
  have h3:=a9r most D t
  have h4:=a9r n D t
  simp only [a21]
  by_cases hD:D t = true
  ·have hlt:(a21 most D t).2 < most:=by omega
   by_cases hc:(a21 n D t).2 < n
   ·have e:(a21 n D t).2 = (a21 most D t).2:=by omega
    have hc':(a21 most D t).2 < n:=by omega
    simp only [hD,hlt,hc',and_true,if_true,e,h1]
    exact ⟨trivial,by omega⟩
   ·have e:¬ (a21 most D t).2 = 0:=by omega
    simp only [hD,hlt,hc,and_true,if_true,if_false,e]
    exact ⟨h1,by omega⟩
  ·simp only [hD,Bool.false_eq_true,and_false,if_false]
   exact ⟨h1,h2⟩
end Go.Pc
