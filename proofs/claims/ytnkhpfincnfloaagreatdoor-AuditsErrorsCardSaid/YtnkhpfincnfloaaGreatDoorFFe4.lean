/- The closed run of the chapter's examples, by the kernel: part 4 (printed by mkfactsF.py). -/
import Derived.Test.YtnkhpfincnfloaaGreatDoorFFd
import Derived.KernelRfl
set_option linter.unusedSimpArgs false
set_option linter.unusedVariables false
namespace Go.FInst
open Go.Proofs Go.Ax
set_option maxRecDepth 1000000
theorem e1:runFn L.env (mcall L.env M1 60) 60 x1.g x1.args []=some (x1.v,[]):=by kernel_rfl
theorem e4:runFn L.env (mcall L.env M4 60) 60 x4.g x4.args []=some (x4.v,[]):=by kernel_rfl
theorem e10:runFn L.env (mcall L.env M10 60) 60 x10.g x10.args []=some (x10.v,[]):=by kernel_rfl
theorem e13:runFn L.env (mcall L.env M13 60) 60 x13.g x13.args []=some (x13.v,[]):=by kernel_rfl
theorem e32:runFn L.env (mcall L.env M32 60) 60 x32.g x32.args []=some (x32.v,[]):=by kernel_rfl
theorem e37:runFn L.env (callD M37 60) 60 x37.g x37.args []=some (x37.v,[]):=by kernel_rfl
theorem e41:runFn L.env (mcall L.env M41 60) 60 x41.g x41.args []=some (x41.v,[]):=by kernel_rfl
theorem e46:runFn L.env (mcall L.env M46 60) 60 x46.g x46.args []=some (x46.v,[]):=by kernel_rfl
theorem e53:runFn L.env (mcall L.env M53 60) 60 x53.g x53.args []=some (x53.v,[]):=by kernel_rfl
theorem e57:runFn L.env (mcall L.env M57 60) 60 x57.g x57.args []=some (x57.v,[]):=by kernel_rfl
theorem e65:runFn L.env (mcall L.env M65 60) 60 x65.g x65.args []=some (x65.v,[]):=by kernel_rfl
theorem e71:runFn L.env (mcall L.env M71 60) 60 x71.g x71.args []=some (x71.v,[]):=by kernel_rfl
theorem e75:runFn L.env (mcall L.env M75 60) 60 x75.g x75.args []=some (x75.v,[]):=by kernel_rfl
theorem e78:runFn L.env (mcall L.env M78 60) 60 x78.g x78.args []=some (x78.v,[]):=by kernel_rfl
theorem e80:runFn L.env (callD M80 60) 60 x80.g x80.args []=some (x80.v,[]):=by kernel_rfl
theorem e82:runFn L.env (mcall L.env M82 60) 60 x82.g x82.args []=some (x82.v,[]):=by kernel_rfl
theorem e83:runFn L.env (mcall L.env M83 60) 60 x83.g x83.args []=some (x83.v,[]):=by kernel_rfl
theorem e87:runFn L.env (mcall L.env M87 60) 60 x87.g x87.args []=some (x87.v,[]):=by kernel_rfl
theorem e92:runFn L.env (mcall L.env M92 60) 60 x92.g x92.args []=some (x92.v,[]):=by kernel_rfl
theorem e93:runFn L.env (mcall L.env M93 60) 60 x93.g x93.args []=some (x93.v,[]):=by kernel_rfl
theorem e100:runFn L.env (mcall L.env M100 60) 60 x100.g x100.args []=some (x100.v,[]):=by kernel_rfl
theorem e107:runFn L.env (mcall L.env M107 60) 60 x107.g x107.args []=some (x107.v,[]):=by kernel_rfl
theorem e110:runFn L.env (mcall L.env M110 60) 60 x110.g x110.args []=some (x110.v,[]):=by kernel_rfl
theorem e111:runFn L.env (mcall L.env M111 60) 60 x111.g x111.args []=some (x111.v,[]):=by kernel_rfl
theorem e114:runFn L.env (mcall L.env M114 60) 60 x114.g x114.args []=some (x114.v,[]):=by kernel_rfl
theorem e116:runFn L.env (mcall L.env M116 60) 60 x116.g x116.args []=some (x116.v,[]):=by kernel_rfl
theorem e120:runFn L.env (mcall L.env M120 60) 60 x120.g x120.args []=some (x120.v,[]):=by kernel_rfl
theorem e123:runFn L.env (mcall L.env M123 60) 60 x123.g x123.args []=some (x123.v,[]):=by kernel_rfl
theorem e128:runFn L.env (mcall L.env M128 60) 60 x128.g x128.args []=some (x128.v,[]):=by kernel_rfl
theorem e129:runFn L.env (mcall L.env M129 60) 60 x129.g x129.args []=some (x129.v,[]):=by kernel_rfl
theorem e132:runFn L.env (mcall L.env M132 60) 60 x132.g x132.args []=some (x132.v,[]):=by kernel_rfl
theorem e139:runFn L.env (mcall L.env M139 60) 60 x139.g x139.args []=some (x139.v,[]):=by kernel_rfl
theorem e158:runFn L.env (mcall L.env M158 60) 60 x158.g x158.args []=some (x158.v,[]):=by kernel_rfl
theorem e165:runFn L.env (mcall L.env M165 60) 60 x165.g x165.args []=some (x165.v,[]):=by kernel_rfl
end Go.FInst
