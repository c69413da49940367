/- PcPck: selections of tests: what remains uncovered. Plain. -/
import Derived.Test.YtbmkmaobejlkgaaDoorAxE
import Derived.Sort.AssemblyPlain
import Derived.Lib.SlicesMore
set_option linter.unusedSimpArgs false
set_option linter.unusedVariables false
namespace Go.Pc
def meetsL (a b:List Nat):Bool:=a.any fun x=>b.contains x
def unc (r acc:List Nat):Bool:=!r.isEmpty && !meetsL r acc
def idxL (m:Nat) (p:Nat → Bool):List Int:=((List.range m).filter p).map fun (i:Nat)=>(i:Int)
def rowAt' (tb:List (List Nat)) (i:Nat):List Nat:=tb.getD i []
def lset (tb:List (List Nat)) (acc:List Nat):List Int:=idxL tb.length fun i=>unc (rowAt' tb i) acc
def colI (tb:List (List Nat)) (t:Nat):List Int:=idxL tb.length fun i=>(rowAt' tb i).contains t
def gcnt (tb:List (List Nat)) (acc:List Nat) (t:Nat):Nat:=(colI tb t).countP fun y=>(lset tb acc).contains y
def later (tb:List (List Nat)):Nat → List Nat → List Nat
 | 0,acc=>acc
 | t + 1,acc=>later tb t (if 0 < gcnt tb acc t then t :: acc else acc)
end Go.Pc
/- PcCir: circuits as plain data: nodes, how they are laid in cells; the small circuits of the statements. Plain definitions. -/
namespace Go.Pc
open Go.Ax
def intR (n:Nat):List AV:=[.int .i64 n]
def u8R (n:Nat):List AV:=[.int .u8 n]
attribute [go_sem] intR u8R List.length_map List.getElem?_map
end Go.Pc
/- PcSrt: an array of numbers as rows. -/
namespace Go.Pc
open Go.Ax Go.Sort
end Go.Pc
/- PcSel: the steps of the greedy selection; arrays of numbers reversed. Plain. -/
namespace Go.Pc
open Go.Sort
end Go.Pc
