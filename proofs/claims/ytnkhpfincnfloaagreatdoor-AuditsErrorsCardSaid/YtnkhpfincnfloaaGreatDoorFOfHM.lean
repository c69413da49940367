/- Part of a proof. No condition. -/
import Derived.Test.YtnkhpfincnfloaaGreatDoorFGa
import Derived.Test.YtnkhpfincnfloaaGreatDoorPcP
set_option linter.unusedSimpArgs false
set_option linter.unusedVariables false
namespace Go.FInst
open Go.Proofs Go.Ax Go.Pc
set_option maxRecDepth 100000
/-! a circuit with a memory -/
def mR0:List AV:=[.int .u8 15,.nilslice,.int .i64 0,.int .i64 0]
def mR1:List AV:=[.int .u8 15,.nilslice,.int .i64 0,.int .i64 1]
theorem mN_map(l:List Nd):List.map Nd.enc (mN++l)=mR0::mR1::List.map Nd.enc l:=by rfl
/-- The memory as it is written, at block b. -/
def mH(x:CX)(b:Nat):Heap:=[some (.row 3 [[.slice (b+1) 0 1 (some 1),.slice (b+2) 0 2 (some 2),.int .i64 (x.p3%x.nM:Nat)]]),one (x.p0%x.nM),some (.row 1 [[.int .i64 (x.p1%x.nM:Nat)],[.int .i64 (x.p2%x.nM:Nat)]])]
def mVn(b:Nat):Nat→AV|0=>.slice b 0 1 (some 1)|_+1=>.slice (b+1) 0 1 (some 1)
def mHn(x:CX)(b:Nat):Nat→Heap|0=>mH x b|_+1=>mH x (b+1)
theorem mVn0(b:Nat):mVn b 0 = .slice b 0 1 (some 1):=by rfl
theorem mVns(b i:Nat):mVn b (i+1) = .slice (b+1) 0 1 (some 1):=by rfl
theorem mHn0(x:CX)(b:Nat):mHn x b 0=[some (.row 3 [[.slice (b+1) 0 1 (some 1),.slice (b+2) 0 2 (some 2),.int .i64 (x.p3%x.nM:Nat)]]),one (x.p0%x.nM),some (.row 1 [[.int .i64 (x.p1%x.nM:Nat)],[.int .i64 (x.p2%x.nM:Nat)]])]:=by rfl
theorem mHns(x:CX)(b i:Nat):mHn x b (i+1)=[some (.row 3 [[.slice (b+1+1) 0 1 (some 1),.slice (b+1+2) 0 2 (some 2),.int .i64 (x.p3%x.nM:Nat)]]),one (x.p0%x.nM),some (.row 1 [[.int .i64 (x.p1%x.nM:Nat)],[.int .i64 (x.p2%x.nM:Nat)]])]:=by rfl
def otHM(x:CX):Nat→Heap|0=>[]|i+1=>[some (.row 1 ((x.outs.take (i+1)).map (otR x.nM)))]
theorem otHM0(x:CX):otHM x 0=[]:=by rfl
theorem otHMs(x:CX)(i:Nat):otHM x (i+1)=[some (.row 1 ((x.outs.take (i+1)).map (otR x.nM)))]:=by rfl
attribute [go_sem] mR0 mR1
end Go.FInst
