/- The closed run of the chapter's examples, by the kernel: part 0 (printed by mkfactsF.py). -/
import Derived.Test.YtnkhpfincnfloaaGreatDoorFFd
import Derived.KernelRfl
set_option linter.unusedSimpArgs false
set_option linter.unusedVariables false
namespace Go.FInst
open Go.Proofs Go.Ax
set_option maxRecDepth 1000000
theorem e2:runFn L.env (mcall L.env M2 60) 60 x2.g x2.args []=some (x2.v,[]):=by kernel_rfl
theorem e8:runFn L.env (mcall L.env M8 60) 60 x8.g x8.args []=some (x8.v,[]):=by kernel_rfl
theorem e9:runFn L.env (mcall L.env M9 60) 60 x9.g x9.args []=some (x9.v,[]):=by kernel_rfl
theorem e11:runFn L.env (mcall L.env M11 60) 60 x11.g x11.args []=some (x11.v,[]):=by kernel_rfl
theorem e17:runFn L.env (mcall L.env M17 60) 60 x17.g x17.args []=some (x17.v,[]):=by kernel_rfl
theorem e26:runFn L.env (mcall L.env M26 60) 60 x26.g x26.args []=some (x26.v,[]):=by kernel_rfl
theorem e27:runFn L.env (mcall L.env M27 60) 60 x27.g x27.args []=some (x27.v,[]):=by kernel_rfl
theorem e28:runFn L.env (mcall L.env M28 60) 60 x28.g x28.args []=some (x28.v,[]):=by kernel_rfl
theorem e30:runFn L.env (mcall L.env M30 60) 60 x30.g x30.args []=some (x30.v,[]):=by kernel_rfl
theorem e33:runFn L.env (mcall L.env M33 60) 60 x33.g x33.args []=some (x33.v,[]):=by kernel_rfl
theorem e38:runFn L.env (mcall L.env M38 60) 60 x38.g x38.args []=some (x38.v,[]):=by kernel_rfl
theorem e43:runFn L.env (mcall L.env M43 60) 60 x43.g x43.args []=some (x43.v,[]):=by kernel_rfl
theorem e47:runFn L.env (mcall L.env M47 60) 60 x47.g x47.args []=some (x47.v,[]):=by kernel_rfl
theorem e50:runFn L.env (mcall L.env M50 60) 60 x50.g x50.args []=some (x50.v,[]):=by kernel_rfl
theorem e52:runFn L.env (mcall L.env M52 60) 60 x52.g x52.args []=some (x52.v,[]):=by kernel_rfl
theorem e68:runFn L.env (mcall L.env M68 60) 60 x68.g x68.args []=some (x68.v,[]):=by kernel_rfl
theorem e69:runFn L.env (mcall L.env M69 60) 60 x69.g x69.args []=some (x69.v,[]):=by kernel_rfl
theorem e70:runFn L.env (mcall L.env M70 60) 60 x70.g x70.args []=some (x70.v,[]):=by kernel_rfl
theorem e88:runFn L.env (mcall L.env M88 60) 60 x88.g x88.args []=some (x88.v,[]):=by kernel_rfl
theorem e91:runFn L.env (mcall L.env M91 60) 60 x91.g x91.args []=some (x91.v,[]):=by kernel_rfl
theorem e104:runFn L.env (mcall L.env M104 60) 60 x104.g x104.args []=some (x104.v,[]):=by kernel_rfl
theorem e105:runFn L.env (mcall L.env M105 60) 60 x105.g x105.args []=some (x105.v,[]):=by kernel_rfl
theorem e113:runFn L.env (mcall L.env M113 60) 60 x113.g x113.args []=some (x113.v,[]):=by kernel_rfl
theorem e115:runFn L.env (mcall L.env M115 60) 60 x115.g x115.args []=some (x115.v,[]):=by kernel_rfl
theorem e119:runFn L.env (mcall L.env M119 60) 60 x119.g x119.args []=some (x119.v,[]):=by kernel_rfl
theorem e121:runFn L.env (mcall L.env M121 60) 60 x121.g x121.args []=some (x121.v,[]):=by kernel_rfl
theorem e122:runFn L.env (mcall L.env M122 60) 60 x122.g x122.args []=some (x122.v,[]):=by kernel_rfl
theorem e133:runFn L.env (mcall L.env M133 60) 60 x133.g x133.args []=some (x133.v,[]):=by kernel_rfl
theorem e140:runFn L.env (mcall L.env M140 60) 60 x140.g x140.args []=some (x140.v,[]):=by kernel_rfl
theorem e147:runFn L.env (mcall L.env M147 60) 60 x147.g x147.args []=some (x147.v,[]):=by kernel_rfl
theorem e150:runFn L.env (mcall L.env M150 60) 60 x150.g x150.args []=some (x150.v,[]):=by kernel_rfl
theorem e155:runFn L.env (mcall L.env M155 60) 60 x155.g x155.args []=some (x155.v,[]):=by kernel_rfl
theorem e164:runFn L.env (mcall L.env M164 60) 60 x164.g x164.args []=some (x164.v,[]):=by kernel_rfl
end Go.FInst
