/- The closed run of the chapter's examples, by the kernel: part 3 (printed by mkfactsF.py). -/
import Derived.Test.YtnkhpfincnfloaaGreatDoorFFd
import Derived.KernelRfl
set_option linter.unusedSimpArgs false
set_option linter.unusedVariables false
namespace Go.FInst
open Go.Proofs Go.Ax
set_option maxRecDepth 1000000
theorem e0:runFn L.env (mcall L.env M0 60) 60 x0.g x0.args []=some (x0.v,[]):=by kernel_rfl
theorem e7:runFn L.env (mcall L.env M7 60) 60 x7.g x7.args []=some (x7.v,[]):=by kernel_rfl
theorem e16:runFn L.env (mcall L.env M16 60) 60 x16.g x16.args []=some (x16.v,[]):=by kernel_rfl
theorem e20:runFn L.env (mcall L.env M20 60) 60 x20.g x20.args []=some (x20.v,[]):=by kernel_rfl
theorem e40:runFn L.env (mcall L.env M40 60) 60 x40.g x40.args []=some (x40.v,[]):=by kernel_rfl
theorem e45:runFn L.env (mcall L.env M45 60) 60 x45.g x45.args []=some (x45.v,[]):=by kernel_rfl
theorem e51:runFn L.env (mcall L.env M51 60) 60 x51.g x51.args []=some (x51.v,[]):=by kernel_rfl
theorem e55:runFn L.env (mcall L.env M55 60) 60 x55.g x55.args []=some (x55.v,[]):=by kernel_rfl
theorem e56:runFn L.env (mcall L.env M56 60) 60 x56.g x56.args []=some (x56.v,[]):=by kernel_rfl
theorem e58:runFn L.env (mcall L.env M58 60) 60 x58.g x58.args []=some (x58.v,[]):=by kernel_rfl
theorem e61:runFn L.env (mcall L.env M61 60) 60 x61.g x61.args []=some (x61.v,[]):=by kernel_rfl
theorem e64:runFn L.env (callD M64 60) 60 x64.g x64.args []=some (x64.v,[]):=by kernel_rfl
theorem e67:runFn L.env (mcall L.env M67 60) 60 x67.g x67.args []=some (x67.v,[]):=by kernel_rfl
theorem e85:runFn L.env (mcall L.env M85 60) 60 x85.g x85.args []=some (x85.v,[]):=by kernel_rfl
theorem e86:runFn L.env (mcall L.env M86 60) 60 x86.g x86.args []=some (x86.v,[]):=by kernel_rfl
theorem e90:runFn L.env (mcall L.env M90 60) 60 x90.g x90.args []=some (x90.v,[]):=by kernel_rfl
theorem e94:runFn L.env (mcall L.env M94 60) 60 x94.g x94.args []=some (x94.v,[]):=by kernel_rfl
theorem e101:runFn L.env (mcall L.env M101 60) 60 x101.g x101.args []=some (x101.v,[]):=by kernel_rfl
theorem e108:runFn L.env (mcall L.env M108 60) 60 x108.g x108.args []=some (x108.v,[]):=by kernel_rfl
theorem e112:runFn L.env (mcall L.env M112 60) 60 x112.g x112.args []=some (x112.v,[]):=by kernel_rfl
theorem e124:runFn L.env (mcall L.env M124 60) 60 x124.g x124.args []=some (x124.v,[]):=by kernel_rfl
theorem e130:runFn L.env (mcall L.env M130 60) 60 x130.g x130.args []=some (x130.v,[]):=by kernel_rfl
theorem e134:runFn L.env (mcall L.env M134 60) 60 x134.g x134.args []=some (x134.v,[]):=by kernel_rfl
theorem e136:runFn L.env (mcall L.env M136 60) 60 x136.g x136.args []=some (x136.v,[]):=by kernel_rfl
theorem e137:runFn L.env (mcall L.env M137 60) 60 x137.g x137.args []=some (x137.v,[]):=by kernel_rfl
theorem e142:runFn L.env (mcall L.env M142 60) 60 x142.g x142.args []=some (x142.v,[]):=by kernel_rfl
theorem e144:runFn L.env (mcall L.env M144 60) 60 x144.g x144.args []=some (x144.v,[]):=by kernel_rfl
theorem e149:runFn L.env (mcall L.env M149 60) 60 x149.g x149.args []=some (x149.v,[]):=by kernel_rfl
theorem e151:runFn L.env (mcall L.env M151 60) 60 x151.g x151.args []=some (x151.v,[]):=by kernel_rfl
theorem e152:runFn L.env (mcall L.env M152 60) 60 x152.g x152.args []=some (x152.v,[]):=by kernel_rfl
theorem e153:runFn L.env (mcall L.env M153 60) 60 x153.g x153.args []=some (x153.v,[]):=by kernel_rfl
theorem e160:runFn L.env (mcall L.env M160 60) 60 x160.g x160.args []=some (x160.v,[]):=by kernel_rfl
theorem e161:runFn L.env (mcall L.env M161 60) 60 x161.g x161.args []=some (x161.v,[]):=by kernel_rfl
theorem e167:runFn L.env (mcall L.env M167 60) 60 x167.g x167.args []=some (x167.v,[]):=by kernel_rfl
end Go.FInst
