/- Part of a proof. No condition. -/
import Derived.Test.YtbmkmaobejlkgaaDoorKBase
import Derived.Test.YtbmkmaobejlkgaaDoorAxF
import Derived.Test.YtbmkmaobejlkgaaDoorPcP
import Derived.Test.YtbmkmaobejlkgaaDoorAxE
import Derived.Test.YtbmkmaobejlkgaaDoorKSr
set_option linter.unusedSimpArgs false
set_option linter.unusedVariables false
namespace Go.KInst
open Go.Proofs Go.Ax Go.Pc
set_option maxRecDepth 100000
/-- An immutable list of numbers. -/
inductive RV (l:List Nat):AV → Prop
 | imm (c:Option Nat):RV l (.islice (l.map intR) c)
 | nil (h:l = []):RV l .nilslice
theorem RV.refs {l:List Nat} {V:AV} (h:RV l V):Ax.refs V = []:=by
 cases h<;>rfl
theorem rv_len {l:List Nat} {V:AV} (h:RV l V) (hp:FHeap):alen L.env hp 27 V = some (.int .i64 l.length):=by
 cases h with
 | imm c=>simp +decide only [go_sem,List.length_map]
 | nil h=>subst h;simp +decide only [go_sem];rfl
/-- An immutable table: lists of numbers. -/
inductive TBv (tb:List (List Nat)):AV → Prop
 | imm (VS:List AV) (c:Option Nat) (hl:VS.length = tb.length) (h:∀ (i:Nat) r,tb[i]? = some r → ∃ V,VS[i]? = some V ∧ RV r V):TBv tb (.islice (VS.map fun v=>[v]) c)
 | nil (h:tb = []):TBv tb .nilslice
section
variable {ks V:List Int} {i:Int}
end
/-- Ascending from above a number on, below another. -/
def Asc (n:Nat):Int → List Nat → Prop
 | _,[]=>True
 | last,x :: r=>last < x ∧ x < n ∧ Asc n x r
theorem clip_nil:sem L.env Mf 31 [.nilslice] [] = some (.nilslice,[]):=by
 (refine sv Tryd.f31 ?_;simp only [Tryd.f31,gS])
 (repeat first|simp only [ww]|(apply xa;simp +decide only [go_sem];rfl;kernel_rfl))
 (apply fqb;simp +decide only [go_sem]<;>rfl)
theorem clip_ok (n:Nat) (rows:List (List AV)) (hf:FlatR rows):sem L.env Mf 31 [.slice 0 0 n none] [some (.row 1 rows)] = some (.slice 0 0 n (some n),[some (.row 1 rows)]):=by
 have h1:=fun π=>renR_flat π hf
 (refine sv Tryd.f31 ?_;simp only [Tryd.f31,gS])
 (repeat first|simp only [ww]|(apply xa;simp +decide only [go_sem];rfl;kernel_rfl))
 (apply fqb;simp +decide only [go_sem,h1]<;>rfl)
theorem clip_call {d:Bool} {H:Heap} {b n:Nat} {rows:List (List AV)} (hf:FlatR rows) (hb:HeapF H b = some (.row 1 rows)):callV L.env d (sem L.env Mf) (.func (.func 31) [] []) [.slice b 0 n none] H = some (.slice b 0 n (some n),H,[b]):=by
 have h:=callV_one' (E:=L.env) (draw:=d) (call:=sem L.env Mf) (g:=31) (fs:=[]) (cs:=[]) (ar:=[.slice b 0 n none]) (H:=H) (b:=b) (by kernel_rfl) (by kernel_rfl) rfl hb (refsO_flat hf) (FlatO.row hf) rfl (args':=[AV.slice 0 0 n none]) (by simp only [List.nil_append,List.append_nil,List.map_cons,List.map_nil,ren_slice1]) (clip_ok n rows hf) (FlatO.row hf) (back_slice1 b 0 _ n _)
 rw [set_same hb] at h
 exact h
open Go.Proofs Go.Ax Go.Pc Go.Sort
end Go.KInst
