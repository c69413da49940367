/- The closed run of the chapter's examples, by the kernel: part 2 (printed by mkfactsF.py). -/
import Derived.Test.YtnkhpfincnfloaaGreatDoorFFd
import Derived.KernelRfl
set_option linter.unusedSimpArgs false
set_option linter.unusedVariables false
namespace Go.FInst
open Go.Proofs Go.Ax
set_option maxRecDepth 1000000
theorem e5:runFn L.env (mcall L.env M5 60) 60 x5.g x5.args []=some (x5.v,[]):=by kernel_rfl
theorem e6:runFn L.env (mcall L.env M6 60) 60 x6.g x6.args []=some (x6.v,[]):=by kernel_rfl
theorem e14:runFn L.env (mcall L.env M14 60) 60 x14.g x14.args []=some (x14.v,[]):=by kernel_rfl
theorem e21:runFn L.env (mcall L.env M21 60) 60 x21.g x21.args []=some (x21.v,[]):=by kernel_rfl
theorem e22:runFn L.env (mcall L.env M22 60) 60 x22.g x22.args []=some (x22.v,[]):=by kernel_rfl
theorem e29:runFn L.env (mcall L.env M29 60) 60 x29.g x29.args []=some (x29.v,[]):=by kernel_rfl
theorem e34:runFn L.env (mcall L.env M34 60) 60 x34.g x34.args []=some (x34.v,[]):=by kernel_rfl
theorem e36:runFn L.env (mcall L.env M36 60) 60 x36.g x36.args []=some (x36.v,[]):=by kernel_rfl
theorem e42:runFn L.env (mcall L.env M42 60) 60 x42.g x42.args []=some (x42.v,[]):=by kernel_rfl
theorem e48:runFn L.env (mcall L.env M48 60) 60 x48.g x48.args []=some (x48.v,[]):=by kernel_rfl
theorem e54:runFn L.env (mcall L.env M54 60) 60 x54.g x54.args []=some (x54.v,[]):=by kernel_rfl
theorem e59:runFn L.env (mcall L.env M59 60) 60 x59.g x59.args []=some (x59.v,[]):=by kernel_rfl
theorem e66:runFn L.env (mcall L.env M66 60) 60 x66.g x66.args []=some (x66.v,[]):=by kernel_rfl
theorem e72:runFn L.env (mcall L.env M72 60) 60 x72.g x72.args []=some (x72.v,[]):=by kernel_rfl
theorem e74:runFn L.env (mcall L.env M74 60) 60 x74.g x74.args []=some (x74.v,[]):=by kernel_rfl
theorem e77:runFn L.env (mcall L.env M77 60) 60 x77.g x77.args []=some (x77.v,[]):=by kernel_rfl
theorem e84:runFn L.env (mcall L.env M84 60) 60 x84.g x84.args []=some (x84.v,[]):=by kernel_rfl
theorem e89:runFn L.env (mcall L.env M89 60) 60 x89.g x89.args []=some (x89.v,[]):=by kernel_rfl
theorem e97:runFn L.env (mcall L.env M97 60) 60 x97.g x97.args []=some (x97.v,[]):=by kernel_rfl
theorem e98:runFn L.env (mcall L.env M98 60) 60 x98.g x98.args []=some (x98.v,[]):=by kernel_rfl
theorem e99:runFn L.env (mcall L.env M99 60) 60 x99.g x99.args []=some (x99.v,[]):=by kernel_rfl
theorem e102:runFn L.env (mcall L.env M102 60) 60 x102.g x102.args []=some (x102.v,[]):=by kernel_rfl
theorem e106:runFn L.env (mcall L.env M106 60) 60 x106.g x106.args []=some (x106.v,[]):=by kernel_rfl
theorem e117:runFn L.env (mcall L.env M117 60) 60 x117.g x117.args []=some (x117.v,[]):=by kernel_rfl
theorem e118:runFn L.env (mcall L.env M118 60) 60 x118.g x118.args []=some (x118.v,[]):=by kernel_rfl
theorem e125:runFn L.env (mcall L.env M125 60) 60 x125.g x125.args []=some (x125.v,[]):=by kernel_rfl
theorem e126:runFn L.env (mcall L.env M126 60) 60 x126.g x126.args []=some (x126.v,[]):=by kernel_rfl
theorem e131:runFn L.env (mcall L.env M131 60) 60 x131.g x131.args []=some (x131.v,[]):=by kernel_rfl
theorem e143:runFn L.env (mcall L.env M143 60) 60 x143.g x143.args []=some (x143.v,[]):=by kernel_rfl
theorem e145:runFn L.env (mcall L.env M145 60) 60 x145.g x145.args []=some (x145.v,[]):=by kernel_rfl
theorem e146:runFn L.env (mcall L.env M146 60) 60 x146.g x146.args []=some (x146.v,[]):=by kernel_rfl
theorem e148:runFn L.env (mcall L.env M148 60) 60 x148.g x148.args []=some (x148.v,[]):=by kernel_rfl
theorem e156:runFn L.env (mcall L.env M156 60) 60 x156.g x156.args []=some (x156.v,[]):=by kernel_rfl
theorem e159:runFn L.env (mcall L.env M159 60) 60 x159.g x159.args []=some (x159.v,[]):=by kernel_rfl
end Go.FInst
