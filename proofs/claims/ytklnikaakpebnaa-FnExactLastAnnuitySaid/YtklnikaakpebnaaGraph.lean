/- Which functions, and which variables, each function of the translation names; and what a function reaches, reckoned by these tables. No condition. WRITTEN BY PROGRAM (wip/gen_graph.py). -/
import Derived.Test.YtklnikaakpebnaaRows
import Derived.JoinedOf
namespace Go.Proofs.Ytklnikaakpebnaa
open Go

def gLeads : List (List Nat) := [[], [], [1], [36, 36, 38, 38, 37, 38, 38, 39, 38, 40, 38, 40], [36, 36, 38, 38, 41, 38, 38, 42, 38, 40, 38, 40], [36, 36, 38, 38, 43, 38, 38, 44, 38, 40, 38, 40], 
  [36, 36, 38, 38, 45, 38, 38, 46, 38, 40, 38, 40], [47, 49, 50, 48, 49, 50, 51, 49, 52], [47, 49, 50, 53, 49, 50, 54, 49, 52], [47, 49, 50, 55, 49, 50, 56, 49, 52], 
  [47, 57, 49, 59, 58, 49, 59, 60, 49, 52, 59, 61], [47, 57, 49, 59, 62, 49, 59, 63, 49, 52, 59, 61], [47, 49, 50, 64, 49, 50, 65, 49, 52], [47, 57, 49, 59, 67, 66, 49, 59, 67, 68, 61, 49, 52, 59, 61, 67, 69, 70, 71, 72, 61, 71, 73, 49, 59, 67, 68, 61, 73], 
  [47, 49, 50, 74, 49, 50, 75, 49, 52], [47, 57, 49, 59, 76, 49, 59, 77, 49, 52, 59, 61], [47, 49, 50, 78, 49, 50, 79, 49, 52], [47, 49, 50, 80, 49, 50, 81, 49, 52], 
  [47, 49, 50, 82, 49, 50, 83, 69, 49, 52, 70, 69, 72, 84, 49, 50, 83, 69, 84], [47, 49, 50, 85, 49, 50, 86, 49, 52], [47, 49, 50, 87, 49, 50, 88, 49, 52], 
  [47, 49, 50, 89, 49, 50, 90, 49, 52], [47, 49, 50, 91, 49, 50, 92, 49, 52], [47, 49, 50, 93, 49, 50, 94, 49, 52], [47, 49, 50, 95, 49, 50, 96, 49, 52], 
  [97, 98, 99, 100, 101, 102, 103, 104, 105, 106, 107, 108, 109, 110, 99, 99, 111], [97, 112, 113, 114, 115, 116, 117, 117, 113], [97, 118, 119, 120, 121, 122, 117, 117, 117, 123, 117, 117], 
  [97, 124, 125, 126, 127, 128, 129, 130, 131, 132, 117, 133], [97, 134, 135, 136, 137, 138, 139, 140, 141, 142, 143, 144, 109, 109, 109, 109, 111, 111, 135], 
  [97, 145, 146, 147, 148, 149, 150, 151, 152, 153, 154, 155, 156, 157, 158], [97, 159, 160, 161, 162, 163, 164, 165, 166], [97, 167, 168, 169, 170, 166, 171, 172, 173, 109, 166, 166], 
  [97, 174, 175, 176, 177, 178, 179, 109, 180, 180], [97, 181, 182, 183, 184, 180, 185, 158, 186, 187, 188, 189, 180, 180], [97, 190, 44, 43, 42, 41, 39, 37, 46, 45, 166, 166], 
  [191], [192, 193], [67], [194, 195, 166], [69], [192, 197, 198, 196, 193], [39, 166], [41, 197, 198, 196], [42, 166], [199, 114, 200, 114, 201], [202, 113, 195, 113, 203], 
  [36], [204, 205, 198, 206, 207], [38], [], [155, 208, 209, 210, 211, 212], [40], [213, 206, 198, 205, 214, 196], [215, 208, 180], [216, 198], [217], [], 
  [216, 218, 157], [219], [156, 221, 220], [223], [58, 224], [60, 225], [204, 226, 207], [155, 227, 210], [58, 218, 224, 198], [], [228, 208, 229], [], [230], 
  [], [], [], [216, 231, 233, 198, 232], [217, 234, 234], [58, 235, 235, 196], [60, 237, 238, 236], [216, 239], [217, 241, 240], [216, 231, 231, 233, 232], 
  [217, 241, 240, 234], [204, 205, 198, 242], [155, 209], [], [82], [83], [213, 242, 206], [215], [213, 206], [215], [213, 206], [215, 212], [216, 205, 216, 242], 
  [217, 209, 211], [213, 231, 206, 243], [215, 244], [], [245, 246, 247], [110, 248, 249], [250, 251], [99], [250, 251], [110, 252], [253, 254], [110, 252], 
  [253, 254], [110, 249], [253, 255], [], [256], [], [257], [258, 259, 238, 203], [260, 235, 261, 235, 235, 201], [258, 259, 238, 203], [114], [262, 238], 
  [245, 263, 264, 265, 266, 265, 264], [262, 227, 238, 238, 238, 203], [260, 218, 235, 235, 235, 201], [258, 238, 238], [260, 235, 235, 235], [227, 227, 267], 
  [245, 268], [202, 195], [199, 200], [245, 268, 264, 266, 264], [202, 238, 238, 238, 238, 203], [218, 199, 269, 201], [202, 238, 238, 238, 238, 203], [218, 199, 269, 201], 
  [109], [211, 227, 227], [245, 270, 265], [271, 227, 272], [273, 198, 197, 274, 275], [276, 277], [278], [276, 279], [278], [276, 280], [278], [276, 281], 
  [278], [245, 282], [155, 272, 283, 234, 234], [204, 284, 214, 233, 198, 232], [155, 241], [204, 233], [155, 210], [204, 207], [155, 208], [204, 205], [245, 270], 
  [156, 285, 227, 272, 283], [133, 248], [286, 287], [288, 236], [245, 270, 264, 265, 289, 266, 265, 289, 264], [290, 236], [292, 291, 197, 197, 198, 196], 
  [290, 236], [292, 291, 293], [162, 294, 236], [292, 291, 295, 196, 293], [162], [245, 270, 264, 265, 266, 265, 264], [290, 227, 244], [218, 291, 198, 197, 243], 
  [245, 270, 265, 289], [292, 291, 197, 198, 196], [133, 248, 227, 272, 236], [292, 291, 261, 198, 197, 198, 196], [245, 296, 297], [180, 180], [226, 298, 214, 198, 196, 214, 198, 196], 
  [245, 296, 264, 297], [288, 272, 236], [226, 298, 198, 274, 198, 196], [288, 236], [184], [288, 244], [226, 298, 214, 198, 243], [245, 296, 297], [226, 298, 214, 198, 196], 
  [226, 298, 299], [288], [298, 214, 198], [227, 227, 227, 244], [300], [], [287, 292, 199, 198, 198], [200, 197, 198, 196], [133, 133, 301, 248, 227, 272, 272], 
  [238, 238, 238], [243], [261, 198], [235, 235, 302], [286, 286, 218, 218, 235, 235], [235, 235, 235], [303], [133, 133, 301, 227, 238, 238], [267], [157, 218, 226, 298, 198], 
  [261], [242], [233, 304], [305], [272, 241, 208, 306, 307], [241, 308], [], [309], [216], [275, 275, 275, 275, 275, 198, 198], [217, 241, 307, 212], [204, 205, 218, 198], 
  [155, 208, 227, 272, 306], [], [50], [310], [222], [227, 217], [311], [205], [208], [218], [], [60, 227], [272, 306], [72], [312, 214, 284, 198], [], [299], 
  [288, 244], [], [313], [238, 238], [305], [231, 233, 232], [244, 244], [158], [239], [], [314, 315], [], [264, 264, 264, 264, 264, 264, 254, 264, 264, 266, 266], 
  [264, 266, 264, 266], [227], [], [253, 287], [255], [], [316], [], [], [318, 317], [245, 263, 265], [262, 238], [], [286, 218], [], [133, 227], [266, 264, 266, 320, 319, 264, 266, 266], 
  [], [264, 261, 261, 266, 264], [264], [], [263, 263, 265, 265, 264, 264, 264], [235, 235, 235, 235], [263, 247], [133, 248], [321, 322, 238, 237], [286, 287, 218], 
  [235, 235, 302], [261, 274], [271, 272], [], [273, 261, 198, 197, 274, 275], [], [], [], [296, 297, 264, 266, 157, 204, 264, 261, 264, 264, 266], [], [197, 197, 197], 
  [227, 248, 227, 227, 323], [218, 218], [218], [133, 285, 272, 324], [264, 266, 266, 264], [133, 248, 227, 227, 323, 272], [273, 218, 198], [218], [197, 198, 196], 
  [248, 323, 321, 259], [302], [270, 264, 264, 264, 266, 266, 265], [264, 266, 266, 264], [218, 291], [214, 284, 196], [245, 268, 247, 289], [227, 227, 227], 
  [], [303], [325], [211], [283, 283, 324], [240], [309], [], [], [], [], [244], [], [326], [218], [327], [227], [218, 218, 316, 304], [264, 264, 264], [], 
  [], [227], [], [], [328], [], [], [], [], [], [], [], [], [], [], [], [], [], [], [], [], [], [], []]
def gUnf : List Bool := [false, false, false, false, false, false, false, false, false, false, false, false, false, false, false, false, false, false, false, false, false, false, 
  false, false, false, false, false, false, false, false, false, false, false, false, false, false, false, false, false, false, false, false, false, false, 
  false, false, false, false, false, false, false, false, false, false, false, false, false, false, false, false, false, false, false, false, false, false, 
  false, false, false, false, false, false, false, false, false, false, false, false, false, false, false, false, false, false, false, false, false, false, 
  false, false, false, false, false, false, false, false, false, false, false, false, false, false, false, false, false, false, false, false, false, false, 
  false, false, false, false, false, false, false, false, false, false, false, false, false, false, false, false, false, false, false, false, false, false, 
  false, false, false, false, false, false, false, false, false, false, false, false, false, false, false, false, false, false, false, false, false, false, 
  false, false, false, false, false, false, false, false, false, false, false, false, false, false, false, false, false, false, false, false, false, false, 
  false, false, false, false, false, false, false, false, false, false, false, false, false, false, false, false, false, false, false, false, false, false, 
  false, false, false, false, false, false, false, false, false, false, false, false, false, false, false, false, false, false, false, false, false, false, 
  false, false, false, false, false, false, false, false, false, false, false, false, false, false, false, false, false, false, false, false, false, false, 
  false, false, false, false, false, false, false, false, false, false, false, false, false, false, false, false, false, false, false, false, false, false, 
  false, false, false, false, false, false, false, false, false, false, false, false, true, false, false, false, false, false, false, false, false, false, 
  false, false, false, false, false, false, false, false, false, false, false, false, false, false, false, false, false, false, false, false, false, false, 
  false, false, true, false, false, false, false, false, false, false, false, false, false, false, false, false, false, false, false, true, false, false, 
  false, false, false, false, false, false, false, false, false, false, false, false, false, false, false, false]
def gGlo : List (List Nat) := [[], [], [], [], [], [], [], [], [], [], [], [], [], [], [], [], [], [], [], [], [], [], [], [], [], [], [], [], [], [], [], [], [], [], [], [], [], [], 
  [], [], [], [], [], [], [], [], [], [], [], [], [], [], [], [], [], [], [], [], [], [], [], [], [], [], [], [], [], [], [], [], [], [], [], [], [], [], 
  [], [], [], [], [], [], [], [], [], [], [], [], [], [], [], [], [], [], [], [], [], [], [], [], [], [], [], [], [], [], [], [], [], [], [], [], [], [], 
  [], [], [], [], [], [], [], [], [], [], [], [], [], [], [], [], [], [], [], [], [], [], [], [], [], [], [], [], [], [], [], [], [], [], [], [], [], [], 
  [], [], [], [], [], [], [], [], [], [], [], [], [], [], [], [], [], [], [], [], [], [], [], [], [], [], [], [], [], [], [], [], [], [], [], [], [], [], 
  [], [], [], [], [], [], [], [], [], [], [], [], [], [], [], [], [], [], [], [], [], [], [], [], [], [], [], [], [], [], [], [], [], [], [], [], [], [], 
  [], [], [], [], [], [], [], [], [], [], [], [], [], [], [], [], [], [], [], [], [], [], [], [], [], [], [], [], [], [], [], [], [], [], [], [], [], [], 
  [], [], [], [], [], [], [], [], [], [], [], [], [], [], [], [], [], [], [], [], [], [], [], [], [], [], [], [], [], [], [], [], [], [], [], [], [], [], 
  [], [], [], [], [], [], [], [], [], [], [], [0, 1], [], [], [], [], [], [], [], [], [], [], [], [], [], [], [], [], [], [], [], [], [], [], [], [], [], 
  [], [], [], [], []]
noncomputable def gInp : List (Option String) := [some Try.f0.name, some Try.f1.name, none, none, none, none, none, none, none, none, none, none, none, none, none, none, none, none, none, none, none, none, 
  none, none, none, none, none, none, none, none, none, none, none, none, none, none, none, none, none, none, none, none, none, none, none, none, none, none, 
  none, none, none, none, none, none, none, none, none, none, none, none, none, none, none, none, none, none, none, none, none, none, none, none, none, none, 
  none, none, none, none, none, none, none, none, none, none, none, none, none, none, none, none, none, none, none, none, none, none, none, none, none, none, 
  none, none, none, none, none, none, none, none, none, none, none, none, none, none, none, none, none, none, none, none, none, none, none, none, none, none, 
  none, none, none, none, none, none, none, none, none, none, none, none, none, none, none, none, none, none, none, none, none, none, none, none, none, none, 
  none, none, none, none, none, none, none, none, none, none, none, none, none, none, none, none, none, none, none, none, none, none, none, none, none, none, 
  none, none, none, none, none, none, none, none, none, none, none, none, none, none, none, none, none, none, none, none, none, none, none, none, none, none, 
  none, none, none, none, none, none, none, none, none, none, none, none, none, none, none, none, none, none, none, none, none, none, none, none, none, none, 
  none, none, none, none, none, none, none, none, none, none, none, none, none, none, none, none, none, none, none, none, none, none, none, none, none, none, 
  none, none, none, none, none, none, none, none, none, none, none, none, none, none, none, none, none, none, none, none, none, none, none, none, none, none, 
  none, none, none, none, none, none, none, none, none, none, none, none, none, none, none, none, none, none, none, none, none, none, none, none, none, none, 
  none, none, none, none, none, none, none, none, none, none, none, none, none, none, none, none, none, none, none, none, none, some Try.f329.name, some Try.f330.name, 
  some Try.f331.name, some Try.f332.name, some Try.f333.name, some Try.f334.name, some Try.f335.name, some Try.f336.name, some Try.f337.name, some Try.f338.name, 
  some Try.f339.name, some Try.f340.name, some Try.f341.name, some Try.f342.name, some Try.f343.name, some Try.f344.name, some Try.f345.name]
def gRds : List (Option String) := [none, none, none, none, none, none, none, none, none, none, none, none, none, none, none, none, none, none, none, none, none, none, none, none, none, none, 
  none, none, none, none, none, none, none, none, none, none, none, none, none, none, none, none, none, none, none, none, none, none, none, none, none, none, 
  none, none, none, none, none, none, none, none, none, none, none, none, none, none, none, none, none, none, none, none, none, none, none, none, none, none, 
  none, none, none, none, none, none, none, none, none, none, none, none, none, none, none, none, none, none, none, none, none, none, none, none, none, none, 
  none, none, none, none, none, none, none, none, none, none, none, none, none, none, none, none, none, none, none, none, none, none, none, none, none, none, 
  none, none, none, none, none, none, none, none, none, none, none, none, none, none, none, none, none, none, none, none, none, none, none, none, none, none, 
  none, none, none, none, none, none, none, none, none, none, none, none, none, none, none, none, none, none, none, none, none, none, none, none, none, none, 
  none, none, none, none, none, none, none, none, none, none, none, none, none, none, none, none, none, none, none, none, none, none, none, none, none, none, 
  none, none, none, none, none, none, none, none, none, none, none, none, none, none, none, none, none, none, none, none, none, none, none, none, none, none, 
  none, none, none, none, none, none, none, none, none, none, none, none, none, none, none, none, none, none, none, none, none, none, none, none, none, none, 
  none, none, none, none, none, none, none, none, none, none, none, none, none, none, none, none, none, none, none, none, none, none, none, none, none, none, 
  none, none, none, none, none, none, none, none, none, none, none, none, none, none, none, none, none, none, none, none, none, none, none, none, none, none, 
  none, none, none, none, none, none, none, none, none, none, none, none, none, none, none, none, none, none, none, none, none, none, none, none, none, none, 
  none, none, none, none, none, none, none, none]
theorem gLeads_eq : Try.prog.funcs.toList.map Try.prog.leadsTo = gLeads := by kernel_rfl
theorem gUnf_eq : Try.prog.funcs.toList.map (fun fn => match fn.body with | some c => c.unfollowed | none => entryCalls fn) = gUnf := by kernel_rfl
theorem gGlo_eq : Try.prog.funcs.toList.map (fun fn => (fn.body).elim [] Code.globalsNamed) = gGlo := by kernel_rfl
theorem gInp_eq : Try.prog.funcs.toList.map (fun fn => if fn.ours || fn.body.isNone || fn.name == "runtime.NumGoroutine" then some fn.name else none) = gInp := by kernel_rfl
theorem gRds_eq : Try.prog.funcs.toList.map (fun fn => if fn.body.isNone then entryReads.lookup fn.name else none) = gRds := by kernel_rfl

theorem at_list {a b : Type} (xs : Array a) (h : a → b) (d : b) (g : Nat) : (xs[g]?).elim d h = (xs.toList.map h).getD g d := by
  rw [← Array.getElem?_toList, List.getD_eq_getElem?_getD, List.getElem?_map]
  cases xs.toList[g]? <;> rfl

def closT (L : List (List Nat)) : Nat → List Nat → List Nat → List Nat
  | 0, _, seen => seen.reverse
  | _, [], seen => seen.reverse
  | n + 1, f :: todo, seen => if seen.contains f then closT L n todo seen else closT L n (L.getD f [] ++ todo) (f :: seen)
def fuelT (L : List (List Nat)) : Nat := 1 + (L.map fun l => l.length + 1).sum
section
variable {P : Program} {L : List (List Nat)}
theorem via_eq (hL : P.funcs.toList.map P.leadsTo = L) (n : Nat) : ∀ todo seen, P.closureVia n todo seen = closT L n todo seen := by
  induction n with
  | zero => intro todo seen; simp [Program.closureVia, closT]
  | succ n ih =>
    intro todo seen
    cases todo with
    | nil => simp [Program.closureVia, closT]
    | cons f todo => simp only [Program.closureVia, closT, ih, at_list, hL]
theorem closure_eq0 (hL : P.funcs.toList.map P.leadsTo = L) (f : Nat) : P.closure f = closT L (fuelT L) [f] [] := by
  have e : (1 + (P.funcs.toList.map fun fn => (P.leadsTo fn).length + 1).sum) = fuelT L := by
    unfold fuelT; rw [← hL, List.map_map]; rfl
  unfold Program.closure
  rw [via_eq hL, ← e]
theorem inPlace_eq0 (hL : P.funcs.toList.map P.leadsTo = L) {I : List (Option String)} (hI : P.funcs.toList.map (fun fn => if fn.ours || fn.body.isNone || fn.name == "runtime.NumGoroutine" then some fn.name else none) = I) (f : Nat) : P.inPlace f = (closT L (fuelT L) [f] []).filterMap fun g => I.getD g none := by
  unfold Program.inPlace
  rw [closure_eq0 hL]
  congr 1; funext g
  rw [← hI, ← at_list]
  cases P.funcs[g]? <;> rfl
theorem unfollowed_eq0 (hL : P.funcs.toList.map P.leadsTo = L) {U : List Bool} (hU : P.funcs.toList.map (fun fn => match fn.body with | some c => c.unfollowed | none => entryCalls fn) = U) (f : Nat) : P.unfollowed f = (closT L (fuelT L) [f] []).any fun g => U.getD g false := by
  unfold Program.unfollowed
  rw [closure_eq0 hL]
  congr 1; funext g
  rw [← hU, ← at_list]
  cases P.funcs[g]? <;> rfl
theorem recurses_eq0 (hL : P.funcs.toList.map P.leadsTo = L) {U : List Bool} (hU : P.funcs.toList.map (fun fn => match fn.body with | some c => c.unfollowed | none => entryCalls fn) = U) (f : Nat) : P.recurses f = ((closT L (fuelT L) [f] []).any (fun g => U.getD g false) || (closT L (fuelT L) [f] []).any fun g => (L.getD g []).any fun h => (closT L (fuelT L) [h] []).contains g) := by
  unfold Program.recurses
  rw [unfollowed_eq0 hL hU, closure_eq0 hL]
  congr 2; funext g
  rw [at_list, hL]
  congr 1; funext h
  rw [closure_eq0 hL]
theorem varsNamed_eq0 (hL : P.funcs.toList.map P.leadsTo = L) {G : List (List Nat)} {R : List (Option String)} (hG : P.funcs.toList.map (fun fn => (fn.body).elim [] Code.globalsNamed) = G) (hR : P.funcs.toList.map (fun fn => if fn.body.isNone then entryReads.lookup fn.name else none) = R) (f : Nat) :
    P.varsNamed f = ((((closT L (fuelT L) [f] []).flatMap fun g => G.getD g []).eraseDups).filterMap (fun g => (P.globals[g]?).map (·.name)) ++ (closT L (fuelT L) [f] []).filterMap fun g => R.getD g none).eraseDups := by
  unfold Program.varsNamed
  rw [closure_eq0 hL]
  congr 2
  · congr 2; congr 1; funext g
    rw [← hG, ← at_list]
    cases P.funcs[g]? <;> rfl
  · congr 1; funext g
    rw [← hR, ← at_list]
    cases P.funcs[g]? <;> rfl
end
theorem inPlace_eq (f : Nat) : Try.prog.inPlace f = (closT gLeads (fuelT gLeads) [f] []).filterMap fun g => gInp.getD g none := inPlace_eq0 gLeads_eq gInp_eq f
theorem unfollowed_eq (f : Nat) : Try.prog.unfollowed f = (closT gLeads (fuelT gLeads) [f] []).any fun g => gUnf.getD g false := unfollowed_eq0 gLeads_eq gUnf_eq f
theorem recurses_eq (f : Nat) : Try.prog.recurses f = ((closT gLeads (fuelT gLeads) [f] []).any (fun g => gUnf.getD g false) || (closT gLeads (fuelT gLeads) [f] []).any fun g => (gLeads.getD g []).any fun h => (closT gLeads (fuelT gLeads) [h] []).contains g) := recurses_eq0 gLeads_eq gUnf_eq f
theorem varsNamed_eq (f : Nat) : Try.prog.varsNamed f = ((((closT gLeads (fuelT gLeads) [f] []).flatMap fun g => gGlo.getD g []).eraseDups).filterMap (fun g => (Try.prog.globals[g]?).map (·.name)) ++ (closT gLeads (fuelT gLeads) [f] []).filterMap fun g => gRds.getD g none).eraseDups := varsNamed_eq0 gLeads_eq gGlo_eq gRds_eq f
/-- The same walk with the set of what is seen held in one number: cheap to reckon in the kernel. -/
def closB (L : List (List Nat)) : Nat → List Nat → Nat → List Nat → List Nat
  | 0, _, _, seen => seen.reverse
  | _, [], _, seen => seen.reverse
  | n + 1, f :: todo, m, seen => cond (m.testBit f) (closB L n todo m seen) (closB L n (L.getD f [] ++ todo) (m ||| 1 <<< f) (f :: seen))
theorem closB_eq (L : List (List Nat)) (n : Nat) : ∀ todo m seen, (∀ x, m.testBit x = seen.contains x) → closT L n todo seen = closB L n todo m seen := by
  induction n with
  | zero => intro todo m seen _; simp [closT, closB]
  | succ n ih =>
    intro todo m seen h
    cases todo with
    | nil => simp [closT, closB]
    | cons f todo =>
      simp only [closT, closB]
      rw [h f]
      cases hc : seen.contains f with
      | true => simp only [if_true, cond_true]; exact ih _ _ _ h
      | false =>
        simp only [cond_false]
        rw [if_neg (by simp)]
        refine ih _ _ _ fun x => ?_
        rw [Nat.testBit_or, h x, Nat.shiftLeft_eq, Nat.one_mul, Nat.testBit_two_pow, List.contains_cons, Bool.or_comm]
        congr 1
        by_cases e : f = x
        · subst e; simp
        · simp [e, Ne.symm e]
theorem clos_mk {L : List (List Nat)} {f : Nat} {r : List Nat} (h : closB L (fuelT L) [f] 0 [] = r) : closT L (fuelT L) [f] [] = r := by
  rw [closB_eq L _ _ 0 _ (fun x => by simp), h]
theorem strip_cut (ls : List String) (h : ls.all (fun o => "cut".toList != o.toList) = true) (r : List (List Char)) : stripLifts ls ("cut".toList :: r) = ([], "cut".toList :: r) := by
  induction ls with
  | nil => rfl
  | cons o os ih =>
    rw [List.all_cons, Bool.and_eq_true] at h
    unfold stripLifts
    rw [if_neg (by simpa using h.1)]
    exact ih h.2
theorem make_cut {P : Program} {r : List (List Char)} (h : behindMainWord (wordsSigns P.initOrder.toList) = "cut".toList :: r) : P.make = some .cut := by
  unfold Program.make
  generalize P.headLifts = H
  rw [h]
  rfl
theorem lifts_cut {P : Program} {r : List (List Char)} (h : behindMainWord (wordsSigns P.initOrder.toList) = "cut".toList :: r) : P.liftsFinal = false := by
  unfold Program.liftsFinal Program.headLifts
  rw [h, strip_cut _ (by kernel_rfl)]
  rfl
theorem may_cut {P : Program} {r : List (List Char)} (h : behindMainWord (wordsSigns P.initOrder.toList) = "cut".toList :: r) (h1 : P.laysLater = false) (h2 : P.bearsReflect = false) (h3 : P.doorFits [] = true) : P.mayEnter = true := by
  unfold Program.mayEnter
  rw [h]
  dsimp only
  rw [strip_cut _ (by kernel_rfl), h1, h2, h3]
  rfl
theorem lays : Try.prog.laysLater = false := by kernel_rfl
theorem bears : Try.prog.bearsReflect = false := by kernel_rfl
theorem door : Try.prog.doorFits [] = true := by kernel_rfl
set_option maxRecDepth 100000 in
theorem order_ : Try.prog.initOrder.toList = ([104, 97, 114, 110, 101, 115, 115, 32, 54, 99, 49, 53, 98, 99, 97, 101, 98, 48, 51, 98, 98, 57, 100, 54, 101, 101, 50, 55, 102, 54, 102, 100, 99, 101, 50, 48, 57, 50, 49, 48, 49, 48, 50, 53, 99, 97, 56, 48, 50, 50, 101, 51, 55, 54, 52, 53, 53, 50, 48, 53, 98, 54, 55, 49, 56, 97, 55, 98, 102, 100, 53, 53, 32, 99, 117, 116, 32, 97, 116, 32, 108, 111, 111, 112, 46, 101, 120, 97, 109, 112, 108, 101, 47, 103, 48, 49, 48, 50, 53, 47, 108, 97, 119, 115, 46, 70, 110, 69, 120, 97, 99, 116, 74, 111, 105, 110, 116, 65, 110, 110, 117, 105, 116, 121, 32, 108, 111, 111, 112, 46, 101, 120, 97, 109, 112, 108, 101, 47, 103, 48, 49, 48, 50, 53, 47, 108, 97, 119, 115, 46, 70, 110, 69, 120, 97, 99, 116, 87, 105, 100, 111, 119, 65, 110, 110, 117, 105, 116, 121, 32, 108, 111, 111, 112, 46, 101, 120, 97, 109, 112, 108, 101, 47, 103, 48, 49, 48, 50, 53, 47, 108, 97, 119, 115, 46, 70, 110, 69, 120, 97, 99, 116, 76, 97, 115, 116, 65, 110, 110, 117, 105, 116, 121, 32, 108, 111, 111, 112, 46, 101, 120, 97, 109, 112, 108, 101, 47, 103, 48, 49, 48, 50, 53, 47, 108, 97, 119, 115, 46, 70, 110, 69, 120, 97, 99, 116, 87, 105, 100, 111, 119, 89, 101, 97, 114, 115, 32, 108, 111, 111, 112, 46, 101, 120, 97, 109, 112, 108, 101, 47, 103, 48, 49, 48, 50, 53, 47, 108, 97, 119, 115, 46, 70, 110, 69, 120, 97, 99, 116, 66, 101, 115, 116, 76, 101, 97, 118, 105, 110, 103, 32, 108, 111, 111, 112, 46, 101, 120, 97, 109, 112, 108, 101, 47, 103, 48, 49, 48, 50, 53, 47, 108, 97, 119, 115, 46, 70, 110, 69, 120, 97, 99, 116, 75, 101, 112, 116, 89, 101, 97, 114, 115, 32, 108, 111, 111, 112, 46, 101, 120, 97, 109, 112, 108, 101, 47, 103, 48, 49, 48, 50, 53, 47, 108, 97, 119, 115, 46, 70, 110, 69, 120, 97, 99, 116, 68, 101, 110, 111, 109, 105, 110, 97, 116, 111, 114, 65, 116, 32, 108, 111, 111, 112, 46, 101, 120, 97, 109, 112, 108, 101, 47, 103, 48, 49, 48, 50, 53, 47, 108, 97, 119, 115, 46, 70, 110, 69, 120, 97, 99, 116, 73, 115, 80, 111, 114, 116, 102, 111, 108, 105, 111, 32, 108, 111, 111, 112, 46, 101, 120, 97, 109, 112, 108, 101, 47, 103, 48, 49, 48, 50, 53, 47, 108, 97, 119, 115, 46, 70, 110, 69, 120, 97, 99, 116, 77, 97, 116, 117, 114, 105, 110, 103, 83, 117, 109, 115, 32, 108, 111, 111, 112, 46, 101, 120, 97, 109, 112, 108, 101, 47, 103, 48, 49, 48, 50, 53, 47, 108, 97, 119, 115, 46, 70, 110, 69, 120, 97, 99, 116, 83, 117, 109, 70, 111, 114, 80, 114, 101, 109, 105, 117, 109, 32, 108, 111, 111, 112, 46, 101, 120, 97, 109, 112, 108, 101, 47, 103, 48, 49, 48, 50, 53, 47, 108, 97, 119, 115, 46, 70, 110, 69, 120, 97, 99, 116, 65, 103, 101, 80, 111, 114, 116, 102, 111, 108, 105, 111, 32, 108, 111, 111, 112, 46, 101, 120, 97, 109, 112, 108, 101, 47, 103, 48, 49, 48, 50, 53, 47, 108, 97, 119, 115, 46, 70, 110, 69, 120, 97, 99, 116, 71, 97, 105, 110, 65, 116, 32, 108, 111, 111, 112, 46, 101, 120, 97, 109, 112, 108, 101, 47, 103, 48, 49, 48, 50, 53, 47, 108, 97, 119, 115, 46, 70, 110, 69, 120, 97, 99, 116, 69, 120, 112, 101, 99, 116, 101, 100, 67, 108, 97, 105, 109, 115, 32, 108, 111, 111, 112, 46, 101, 120, 97, 109, 112, 108, 101, 47, 103, 48, 49, 48, 50, 53, 47, 108, 97, 119, 115, 46, 70, 110, 69, 120, 97, 99, 116, 70, 111, 114, 119, 97, 114, 100, 82, 101, 115, 101, 114, 118, 101, 32, 108, 111, 111, 112, 46, 101, 120, 97, 109, 112, 108, 101, 47, 103, 48, 49, 48, 50, 53, 47, 108, 97, 119, 115, 46, 70, 110, 69, 120, 97, 99, 116, 66, 97, 99, 107, 119, 97, 114, 100, 82, 101, 115, 101, 114, 118, 101, 32, 108, 111, 111, 112, 46, 101, 120, 97, 109, 112, 108, 101, 47, 103, 48, 49, 48, 50, 53, 47, 108, 97, 119, 115, 46, 70, 110, 69, 120, 97, 99, 116, 82, 101, 115, 101, 114, 118, 101, 76, 105, 115, 116, 32, 108, 111, 111, 112, 46, 101, 120, 97, 109, 112, 108, 101, 47, 103, 48, 49, 48, 50, 53, 47, 108, 97, 119, 115, 46, 70, 110, 69, 120, 97, 99, 116, 71, 114, 101, 97, 116, 101, 115, 116, 82, 101, 115, 101, 114, 118, 101, 32, 108, 111, 111, 112, 46, 101, 120, 97, 109, 112, 108, 101, 47, 103, 48, 49, 48, 50, 53, 47, 108, 97, 119, 115, 46, 70, 110, 69, 120, 97, 99, 116, 76, 101, 97, 118, 105, 110, 103, 76, 111, 115, 115, 32, 108, 111, 111, 112, 46, 101, 120, 97, 109, 112, 108, 101, 47, 103, 48, 49, 48, 50, 53, 47, 108, 97, 119, 115, 46, 70, 110, 69, 120, 97, 99, 116, 83, 117, 114, 114, 101, 110, 100, 101, 114, 86, 97, 108, 117, 101, 32, 108, 111, 111, 112, 46, 101, 120, 97, 109, 112, 108, 101, 47, 103, 48, 49, 48, 50, 53, 47, 108, 97, 119, 115, 46, 70, 110, 69, 120, 97, 99, 116, 76, 111, 97, 110, 76, 105, 109, 105, 116, 32, 108, 111, 111, 112, 46, 101, 120, 97, 109, 112, 108, 101, 47, 103, 48, 49, 48, 50, 53, 47, 108, 97, 119, 115, 46, 70, 110, 69, 120, 97, 99, 116, 82, 105, 115, 107, 65, 116, 32, 108, 111, 111, 112, 46, 101, 120, 97, 109, 112, 108, 101, 47, 103, 48, 49, 48, 50, 53, 47, 108, 97, 119, 115, 46, 70, 110, 69, 120, 97, 99, 116, 80, 97, 105, 100, 85, 112, 83, 117, 109, 32, 108, 111, 111, 112, 46, 101, 120, 97, 109, 112, 108, 101, 47, 103, 48, 49, 48, 50, 53, 47, 108, 97, 119, 115, 46, 70, 110, 83, 117, 114, 112, 108, 117, 115, 32, 108, 111, 111, 112, 46, 101, 120, 97, 109, 112, 108, 101, 47, 103, 48, 49, 48, 50, 53, 47, 108, 97, 119, 115, 46, 70, 110, 69, 120, 112, 101, 99, 116, 101, 100, 32, 108, 111, 111, 112, 46, 101, 120, 97, 109, 112, 108, 101, 47, 103, 48, 49, 48, 50, 53, 47, 108, 97, 119, 115, 46, 70, 110, 83, 117, 114, 118, 105, 118, 97, 108, 32, 108, 111, 111, 112, 46, 101, 120, 97, 109, 112, 108, 101, 47, 103, 48, 49, 48, 50, 53, 47, 108, 97, 119, 115, 46, 70, 110, 74, 111, 105, 110, 116, 32, 108, 111, 111, 112, 46, 101, 120, 97, 109, 112, 108, 101, 47, 103, 48, 49, 48, 50, 53, 47, 108, 97, 119, 115, 46, 70, 110, 67, 111, 108, 117, 109, 110, 115, 32, 108, 111, 111, 112, 46, 101, 120, 97, 109, 112, 108, 101, 47, 103, 48, 49, 48, 50, 53, 47, 108, 97, 119, 115, 46, 70, 110, 80, 111, 108, 105, 99, 105, 101, 115, 32, 108, 111, 111, 112, 46, 101, 120, 97, 109, 112, 108, 101, 47, 103, 48, 49, 48, 50, 53, 47, 108, 97, 119, 115, 46, 70, 110, 65, 110, 110, 117, 105, 116, 105, 101, 115, 32, 108, 111, 111, 112, 46, 101, 120, 97, 109, 112, 108, 101, 47, 103, 48, 49, 48, 50, 53, 47, 108, 97, 119, 115, 46, 70, 110, 65, 109, 111, 117, 110, 116, 115, 32, 108, 111, 111, 112, 46, 101, 120, 97, 109, 112, 108, 101, 47, 103, 48, 49, 48, 50, 53, 47, 108, 97, 119, 115, 46, 70, 110, 65, 115, 115, 117, 114, 97, 110, 99, 101, 115, 32, 108, 111, 111, 112, 46, 101, 120, 97, 109, 112, 108, 101, 47, 103, 48, 49, 48, 50, 53, 47, 108, 97, 119, 115, 46, 70, 110, 83, 117, 109, 115, 70, 111, 114, 32, 108, 111, 111, 112, 46, 101, 120, 97, 109, 112, 108, 101, 47, 103, 48, 49, 48, 50, 53, 47, 108, 97, 119, 115, 46, 70, 110, 87, 105, 100, 111, 119, 115].map Char.ofNat) := by
  have e : Try.prog.initOrder = String.ofList ([104, 97, 114, 110, 101, 115, 115, 32, 54, 99, 49, 53, 98, 99, 97, 101, 98, 48, 51, 98, 98, 57, 100, 54, 101, 101, 50, 55, 102, 54, 102, 100, 99, 101, 50, 48, 57, 50, 49, 48, 49, 48, 50, 53, 99, 97, 56, 48, 50, 50, 101, 51, 55, 54, 52, 53, 53, 50, 48, 53, 98, 54, 55, 49, 56, 97, 55, 98, 102, 100, 53, 53, 32, 99, 117, 116, 32, 97, 116, 32, 108, 111, 111, 112, 46, 101, 120, 97, 109, 112, 108, 101, 47, 103, 48, 49, 48, 50, 53, 47, 108, 97, 119, 115, 46, 70, 110, 69, 120, 97, 99, 116, 74, 111, 105, 110, 116, 65, 110, 110, 117, 105, 116, 121, 32, 108, 111, 111, 112, 46, 101, 120, 97, 109, 112, 108, 101, 47, 103, 48, 49, 48, 50, 53, 47, 108, 97, 119, 115, 46, 70, 110, 69, 120, 97, 99, 116, 87, 105, 100, 111, 119, 65, 110, 110, 117, 105, 116, 121, 32, 108, 111, 111, 112, 46, 101, 120, 97, 109, 112, 108, 101, 47, 103, 48, 49, 48, 50, 53, 47, 108, 97, 119, 115, 46, 70, 110, 69, 120, 97, 99, 116, 76, 97, 115, 116, 65, 110, 110, 117, 105, 116, 121, 32, 108, 111, 111, 112, 46, 101, 120, 97, 109, 112, 108, 101, 47, 103, 48, 49, 48, 50, 53, 47, 108, 97, 119, 115, 46, 70, 110, 69, 120, 97, 99, 116, 87, 105, 100, 111, 119, 89, 101, 97, 114, 115, 32, 108, 111, 111, 112, 46, 101, 120, 97, 109, 112, 108, 101, 47, 103, 48, 49, 48, 50, 53, 47, 108, 97, 119, 115, 46, 70, 110, 69, 120, 97, 99, 116, 66, 101, 115, 116, 76, 101, 97, 118, 105, 110, 103, 32, 108, 111, 111, 112, 46, 101, 120, 97, 109, 112, 108, 101, 47, 103, 48, 49, 48, 50, 53, 47, 108, 97, 119, 115, 46, 70, 110, 69, 120, 97, 99, 116, 75, 101, 112, 116, 89, 101, 97, 114, 115, 32, 108, 111, 111, 112, 46, 101, 120, 97, 109, 112, 108, 101, 47, 103, 48, 49, 48, 50, 53, 47, 108, 97, 119, 115, 46, 70, 110, 69, 120, 97, 99, 116, 68, 101, 110, 111, 109, 105, 110, 97, 116, 111, 114, 65, 116, 32, 108, 111, 111, 112, 46, 101, 120, 97, 109, 112, 108, 101, 47, 103, 48, 49, 48, 50, 53, 47, 108, 97, 119, 115, 46, 70, 110, 69, 120, 97, 99, 116, 73, 115, 80, 111, 114, 116, 102, 111, 108, 105, 111, 32, 108, 111, 111, 112, 46, 101, 120, 97, 109, 112, 108, 101, 47, 103, 48, 49, 48, 50, 53, 47, 108, 97, 119, 115, 46, 70, 110, 69, 120, 97, 99, 116, 77, 97, 116, 117, 114, 105, 110, 103, 83, 117, 109, 115, 32, 108, 111, 111, 112, 46, 101, 120, 97, 109, 112, 108, 101, 47, 103, 48, 49, 48, 50, 53, 47, 108, 97, 119, 115, 46, 70, 110, 69, 120, 97, 99, 116, 83, 117, 109, 70, 111, 114, 80, 114, 101, 109, 105, 117, 109, 32, 108, 111, 111, 112, 46, 101, 120, 97, 109, 112, 108, 101, 47, 103, 48, 49, 48, 50, 53, 47, 108, 97, 119, 115, 46, 70, 110, 69, 120, 97, 99, 116, 65, 103, 101, 80, 111, 114, 116, 102, 111, 108, 105, 111, 32, 108, 111, 111, 112, 46, 101, 120, 97, 109, 112, 108, 101, 47, 103, 48, 49, 48, 50, 53, 47, 108, 97, 119, 115, 46, 70, 110, 69, 120, 97, 99, 116, 71, 97, 105, 110, 65, 116, 32, 108, 111, 111, 112, 46, 101, 120, 97, 109, 112, 108, 101, 47, 103, 48, 49, 48, 50, 53, 47, 108, 97, 119, 115, 46, 70, 110, 69, 120, 97, 99, 116, 69, 120, 112, 101, 99, 116, 101, 100, 67, 108, 97, 105, 109, 115, 32, 108, 111, 111, 112, 46, 101, 120, 97, 109, 112, 108, 101, 47, 103, 48, 49, 48, 50, 53, 47, 108, 97, 119, 115, 46, 70, 110, 69, 120, 97, 99, 116, 70, 111, 114, 119, 97, 114, 100, 82, 101, 115, 101, 114, 118, 101, 32, 108, 111, 111, 112, 46, 101, 120, 97, 109, 112, 108, 101, 47, 103, 48, 49, 48, 50, 53, 47, 108, 97, 119, 115, 46, 70, 110, 69, 120, 97, 99, 116, 66, 97, 99, 107, 119, 97, 114, 100, 82, 101, 115, 101, 114, 118, 101, 32, 108, 111, 111, 112, 46, 101, 120, 97, 109, 112, 108, 101, 47, 103, 48, 49, 48, 50, 53, 47, 108, 97, 119, 115, 46, 70, 110, 69, 120, 97, 99, 116, 82, 101, 115, 101, 114, 118, 101, 76, 105, 115, 116, 32, 108, 111, 111, 112, 46, 101, 120, 97, 109, 112, 108, 101, 47, 103, 48, 49, 48, 50, 53, 47, 108, 97, 119, 115, 46, 70, 110, 69, 120, 97, 99, 116, 71, 114, 101, 97, 116, 101, 115, 116, 82, 101, 115, 101, 114, 118, 101, 32, 108, 111, 111, 112, 46, 101, 120, 97, 109, 112, 108, 101, 47, 103, 48, 49, 48, 50, 53, 47, 108, 97, 119, 115, 46, 70, 110, 69, 120, 97, 99, 116, 76, 101, 97, 118, 105, 110, 103, 76, 111, 115, 115, 32, 108, 111, 111, 112, 46, 101, 120, 97, 109, 112, 108, 101, 47, 103, 48, 49, 48, 50, 53, 47, 108, 97, 119, 115, 46, 70, 110, 69, 120, 97, 99, 116, 83, 117, 114, 114, 101, 110, 100, 101, 114, 86, 97, 108, 117, 101, 32, 108, 111, 111, 112, 46, 101, 120, 97, 109, 112, 108, 101, 47, 103, 48, 49, 48, 50, 53, 47, 108, 97, 119, 115, 46, 70, 110, 69, 120, 97, 99, 116, 76, 111, 97, 110, 76, 105, 109, 105, 116, 32, 108, 111, 111, 112, 46, 101, 120, 97, 109, 112, 108, 101, 47, 103, 48, 49, 48, 50, 53, 47, 108, 97, 119, 115, 46, 70, 110, 69, 120, 97, 99, 116, 82, 105, 115, 107, 65, 116, 32, 108, 111, 111, 112, 46, 101, 120, 97, 109, 112, 108, 101, 47, 103, 48, 49, 48, 50, 53, 47, 108, 97, 119, 115, 46, 70, 110, 69, 120, 97, 99, 116, 80, 97, 105, 100, 85, 112, 83, 117, 109, 32, 108, 111, 111, 112, 46, 101, 120, 97, 109, 112, 108, 101, 47, 103, 48, 49, 48, 50, 53, 47, 108, 97, 119, 115, 46, 70, 110, 83, 117, 114, 112, 108, 117, 115, 32, 108, 111, 111, 112, 46, 101, 120, 97, 109, 112, 108, 101, 47, 103, 48, 49, 48, 50, 53, 47, 108, 97, 119, 115, 46, 70, 110, 69, 120, 112, 101, 99, 116, 101, 100, 32, 108, 111, 111, 112, 46, 101, 120, 97, 109, 112, 108, 101, 47, 103, 48, 49, 48, 50, 53, 47, 108, 97, 119, 115, 46, 70, 110, 83, 117, 114, 118, 105, 118, 97, 108, 32, 108, 111, 111, 112, 46, 101, 120, 97, 109, 112, 108, 101, 47, 103, 48, 49, 48, 50, 53, 47, 108, 97, 119, 115, 46, 70, 110, 74, 111, 105, 110, 116, 32, 108, 111, 111, 112, 46, 101, 120, 97, 109, 112, 108, 101, 47, 103, 48, 49, 48, 50, 53, 47, 108, 97, 119, 115, 46, 70, 110, 67, 111, 108, 117, 109, 110, 115, 32, 108, 111, 111, 112, 46, 101, 120, 97, 109, 112, 108, 101, 47, 103, 48, 49, 48, 50, 53, 47, 108, 97, 119, 115, 46, 70, 110, 80, 111, 108, 105, 99, 105, 101, 115, 32, 108, 111, 111, 112, 46, 101, 120, 97, 109, 112, 108, 101, 47, 103, 48, 49, 48, 50, 53, 47, 108, 97, 119, 115, 46, 70, 110, 65, 110, 110, 117, 105, 116, 105, 101, 115, 32, 108, 111, 111, 112, 46, 101, 120, 97, 109, 112, 108, 101, 47, 103, 48, 49, 48, 50, 53, 47, 108, 97, 119, 115, 46, 70, 110, 65, 109, 111, 117, 110, 116, 115, 32, 108, 111, 111, 112, 46, 101, 120, 97, 109, 112, 108, 101, 47, 103, 48, 49, 48, 50, 53, 47, 108, 97, 119, 115, 46, 70, 110, 65, 115, 115, 117, 114, 97, 110, 99, 101, 115, 32, 108, 111, 111, 112, 46, 101, 120, 97, 109, 112, 108, 101, 47, 103, 48, 49, 48, 50, 53, 47, 108, 97, 119, 115, 46, 70, 110, 83, 117, 109, 115, 70, 111, 114, 32, 108, 111, 111, 112, 46, 101, 120, 97, 109, 112, 108, 101, 47, 103, 48, 49, 48, 50, 53, 47, 108, 97, 119, 115, 46, 70, 110, 87, 105, 100, 111, 119, 115].map Char.ofNat) := by kernel_rfl
  rw [e]; exact String.toList_ofList
set_option maxRecDepth 100000 in
theorem words : behindMainWord (wordsSigns Try.prog.initOrder.toList) = "cut".toList :: [([97, 116].map Char.ofNat), ([108, 111, 111, 112, 46, 101, 120, 97, 109, 112, 108, 101, 47, 103, 48, 49, 48, 50, 53, 47, 108, 97, 119, 115, 46, 70, 110, 69, 120, 97, 99, 116, 74, 111, 105, 110, 116, 65, 110, 110, 117, 105, 116, 121].map Char.ofNat), ([108, 111, 111, 112, 46, 101, 120, 97, 109, 112, 108, 101, 47, 103, 48, 49, 48, 50, 53, 47, 108, 97, 119, 115, 46, 70, 110, 69, 120, 97, 99, 116, 87, 105, 100, 111, 119, 65, 110, 110, 117, 105, 116, 121].map Char.ofNat), ([108, 111, 111, 112, 46, 101, 120, 97, 109, 112, 108, 101, 47, 103, 48, 49, 48, 50, 53, 47, 108, 97, 119, 115, 46, 70, 110, 69, 120, 97, 99, 116, 76, 97, 115, 116, 65, 110, 110, 117, 105, 116, 121].map Char.ofNat), ([108, 111, 111, 112, 46, 101, 120, 97, 109, 112, 108, 101, 47, 103, 48, 49, 48, 50, 53, 47, 108, 97, 119, 115, 46, 70, 110, 69, 120, 97, 99, 116, 87, 105, 100, 111, 119, 89, 101, 97, 114, 115].map Char.ofNat), ([108, 111, 111, 112, 46, 101, 120, 97, 109, 112, 108, 101, 47, 103, 48, 49, 48, 50, 53, 47, 108, 97, 119, 115, 46, 70, 110, 69, 120, 97, 99, 116, 66, 101, 115, 116, 76, 101, 97, 118, 105, 110, 103].map Char.ofNat), ([108, 111, 111, 112, 46, 101, 120, 97, 109, 112, 108, 101, 47, 103, 48, 49, 48, 50, 53, 47, 108, 97, 119, 115, 46, 70, 110, 69, 120, 97, 99, 116, 75, 101, 112, 116, 89, 101, 97, 114, 115].map Char.ofNat), ([108, 111, 111, 112, 46, 101, 120, 97, 109, 112, 108, 101, 47, 103, 48, 49, 48, 50, 53, 47, 108, 97, 119, 115, 46, 70, 110, 69, 120, 97, 99, 116, 68, 101, 110, 111, 109, 105, 110, 97, 116, 111, 114, 65, 116].map Char.ofNat), ([108, 111, 111, 112, 46, 101, 120, 97, 109, 112, 108, 101, 47, 103, 48, 49, 48, 50, 53, 47, 108, 97, 119, 115, 46, 70, 110, 69, 120, 97, 99, 116, 73, 115, 80, 111, 114, 116, 102, 111, 108, 105, 111].map Char.ofNat), ([108, 111, 111, 112, 46, 101, 120, 97, 109, 112, 108, 101, 47, 103, 48, 49, 48, 50, 53, 47, 108, 97, 119, 115, 46, 70, 110, 69, 120, 97, 99, 116, 77, 97, 116, 117, 114, 105, 110, 103, 83, 117, 109, 115].map Char.ofNat), ([108, 111, 111, 112, 46, 101, 120, 97, 109, 112, 108, 101, 47, 103, 48, 49, 48, 50, 53, 47, 108, 97, 119, 115, 46, 70, 110, 69, 120, 97, 99, 116, 83, 117, 109, 70, 111, 114, 80, 114, 101, 109, 105, 117, 109].map Char.ofNat), ([108, 111, 111, 112, 46, 101, 120, 97, 109, 112, 108, 101, 47, 103, 48, 49, 48, 50, 53, 47, 108, 97, 119, 115, 46, 70, 110, 69, 120, 97, 99, 116, 65, 103, 101, 80, 111, 114, 116, 102, 111, 108, 105, 111].map Char.ofNat), ([108, 111, 111, 112, 46, 101, 120, 97, 109, 112, 108, 101, 47, 103, 48, 49, 48, 50, 53, 47, 108, 97, 119, 115, 46, 70, 110, 69, 120, 97, 99, 116, 71, 97, 105, 110, 65, 116].map Char.ofNat), ([108, 111, 111, 112, 46, 101, 120, 97, 109, 112, 108, 101, 47, 103, 48, 49, 48, 50, 53, 47, 108, 97, 119, 115, 46, 70, 110, 69, 120, 97, 99, 116, 69, 120, 112, 101, 99, 116, 101, 100, 67, 108, 97, 105, 109, 115].map Char.ofNat), ([108, 111, 111, 112, 46, 101, 120, 97, 109, 112, 108, 101, 47, 103, 48, 49, 48, 50, 53, 47, 108, 97, 119, 115, 46, 70, 110, 69, 120, 97, 99, 116, 70, 111, 114, 119, 97, 114, 100, 82, 101, 115, 101, 114, 118, 101].map Char.ofNat), ([108, 111, 111, 112, 46, 101, 120, 97, 109, 112, 108, 101, 47, 103, 48, 49, 48, 50, 53, 47, 108, 97, 119, 115, 46, 70, 110, 69, 120, 97, 99, 116, 66, 97, 99, 107, 119, 97, 114, 100, 82, 101, 115, 101, 114, 118, 101].map Char.ofNat), ([108, 111, 111, 112, 46, 101, 120, 97, 109, 112, 108, 101, 47, 103, 48, 49, 48, 50, 53, 47, 108, 97, 119, 115, 46, 70, 110, 69, 120, 97, 99, 116, 82, 101, 115, 101, 114, 118, 101, 76, 105, 115, 116].map Char.ofNat), ([108, 111, 111, 112, 46, 101, 120, 97, 109, 112, 108, 101, 47, 103, 48, 49, 48, 50, 53, 47, 108, 97, 119, 115, 46, 70, 110, 69, 120, 97, 99, 116, 71, 114, 101, 97, 116, 101, 115, 116, 82, 101, 115, 101, 114, 118, 101].map Char.ofNat), ([108, 111, 111, 112, 46, 101, 120, 97, 109, 112, 108, 101, 47, 103, 48, 49, 48, 50, 53, 47, 108, 97, 119, 115, 46, 70, 110, 69, 120, 97, 99, 116, 76, 101, 97, 118, 105, 110, 103, 76, 111, 115, 115].map Char.ofNat), ([108, 111, 111, 112, 46, 101, 120, 97, 109, 112, 108, 101, 47, 103, 48, 49, 48, 50, 53, 47, 108, 97, 119, 115, 46, 70, 110, 69, 120, 97, 99, 116, 83, 117, 114, 114, 101, 110, 100, 101, 114, 86, 97, 108, 117, 101].map Char.ofNat), ([108, 111, 111, 112, 46, 101, 120, 97, 109, 112, 108, 101, 47, 103, 48, 49, 48, 50, 53, 47, 108, 97, 119, 115, 46, 70, 110, 69, 120, 97, 99, 116, 76, 111, 97, 110, 76, 105, 109, 105, 116].map Char.ofNat), ([108, 111, 111, 112, 46, 101, 120, 97, 109, 112, 108, 101, 47, 103, 48, 49, 48, 50, 53, 47, 108, 97, 119, 115, 46, 70, 110, 69, 120, 97, 99, 116, 82, 105, 115, 107, 65, 116].map Char.ofNat), ([108, 111, 111, 112, 46, 101, 120, 97, 109, 112, 108, 101, 47, 103, 48, 49, 48, 50, 53, 47, 108, 97, 119, 115, 46, 70, 110, 69, 120, 97, 99, 116, 80, 97, 105, 100, 85, 112, 83, 117, 109].map Char.ofNat), ([108, 111, 111, 112, 46, 101, 120, 97, 109, 112, 108, 101, 47, 103, 48, 49, 48, 50, 53, 47, 108, 97, 119, 115, 46, 70, 110, 83, 117, 114, 112, 108, 117, 115].map Char.ofNat), ([108, 111, 111, 112, 46, 101, 120, 97, 109, 112, 108, 101, 47, 103, 48, 49, 48, 50, 53, 47, 108, 97, 119, 115, 46, 70, 110, 69, 120, 112, 101, 99, 116, 101, 100].map Char.ofNat), ([108, 111, 111, 112, 46, 101, 120, 97, 109, 112, 108, 101, 47, 103, 48, 49, 48, 50, 53, 47, 108, 97, 119, 115, 46, 70, 110, 83, 117, 114, 118, 105, 118, 97, 108].map Char.ofNat), ([108, 111, 111, 112, 46, 101, 120, 97, 109, 112, 108, 101, 47, 103, 48, 49, 48, 50, 53, 47, 108, 97, 119, 115, 46, 70, 110, 74, 111, 105, 110, 116].map Char.ofNat), ([108, 111, 111, 112, 46, 101, 120, 97, 109, 112, 108, 101, 47, 103, 48, 49, 48, 50, 53, 47, 108, 97, 119, 115, 46, 70, 110, 67, 111, 108, 117, 109, 110, 115].map Char.ofNat), ([108, 111, 111, 112, 46, 101, 120, 97, 109, 112, 108, 101, 47, 103, 48, 49, 48, 50, 53, 47, 108, 97, 119, 115, 46, 70, 110, 80, 111, 108, 105, 99, 105, 101, 115].map Char.ofNat), ([108, 111, 111, 112, 46, 101, 120, 97, 109, 112, 108, 101, 47, 103, 48, 49, 48, 50, 53, 47, 108, 97, 119, 115, 46, 70, 110, 65, 110, 110, 117, 105, 116, 105, 101, 115].map Char.ofNat), ([108, 111, 111, 112, 46, 101, 120, 97, 109, 112, 108, 101, 47, 103, 48, 49, 48, 50, 53, 47, 108, 97, 119, 115, 46, 70, 110, 65, 109, 111, 117, 110, 116, 115].map Char.ofNat), ([108, 111, 111, 112, 46, 101, 120, 97, 109, 112, 108, 101, 47, 103, 48, 49, 48, 50, 53, 47, 108, 97, 119, 115, 46, 70, 110, 65, 115, 115, 117, 114, 97, 110, 99, 101, 115].map Char.ofNat), ([108, 111, 111, 112, 46, 101, 120, 97, 109, 112, 108, 101, 47, 103, 48, 49, 48, 50, 53, 47, 108, 97, 119, 115, 46, 70, 110, 83, 117, 109, 115, 70, 111, 114].map Char.ofNat), ([108, 111, 111, 112, 46, 101, 120, 97, 109, 112, 108, 101, 47, 103, 48, 49, 48, 50, 53, 47, 108, 97, 119, 115, 46, 70, 110, 87, 105, 100, 111, 119, 115].map Char.ofNat)] := by
  rw [order_]; kernel_rfl
theorem make_eq : Try.prog.make = some .cut := make_cut words
theorem lifts_eq : Try.prog.liftsFinal = false := lifts_cut words
theorem may_eq : Try.prog.mayEnter = true := may_cut words lays bears door
theorem prog_eq : Try.pinned.checked.prog = Try.prog := rfl
theorem laid_eq : laidOutB Try.prog = true := by kernel_rfl
theorem rowed_eq : mapsRowed Try.prog = true := by kernel_rfl
theorem heard_eq : Try.prog.stopsHeard = true := by kernel_rfl
theorem stops_eq : (Try.prog.stops == []) = true := by kernel_rfl
theorem knobs_eq : (Try.prog.stopKnobs == []) = true := by kernel_rfl
theorem keys_eq : Try.prog.plainKeys = true := by kernel_rfl
theorem and_mk {a b : Bool} (ha : a = true) (hb : b = true) : (a && b) = true := by rw [ha, hb]; rfl
theorem walk_eq (L : List (List Nat)) (n : Nat) (h : Nat) : closT L n [h] [] = closB L n [h] 0 [] := closB_eq L n _ 0 _ (fun x => by simp)
set_option maxRecDepth 100000 in
/-- The closed fact of a row, from its parts: the program's own parts are proved above, the rest is small. -/
theorem facts_mk {f : FuncId} {fn : Func} {s : ChangeSpec} {c : OpenClaim} {cl : List Nat} (hcl : closB gLeads (fuelT gLeads) [f] 0 [] = cl)
    (h1 : c.wf (OpenSpec.ofChange s) = true) (h4 : fn.params.all (Try.prog.readableRec ·) = true) (h5 : namedTie Try.prog c.named s.vars = true) (h6 : (c.stops == []) = true) (h8 : (c.knobs == []) = true)
    (h10 : (c.inPlace == (cl.filterMap fun g => gInp.getD g none)) = true)
    (h11 : (c.unfollowed == (cl.any fun g => gUnf.getD g false)) = true)
    (h12 : (c.recurses == ((cl.any fun g => gUnf.getD g false) || cl.any fun g => (gLeads.getD g []).any fun h => (closB gLeads (fuelT gLeads) [h] 0 []).contains g)) = true)
    (h13 : (c.named == (((cl.flatMap fun g => gGlo.getD g []).eraseDups).filterMap (fun g => (Try.prog.globals[g]?).map (·.name)) ++ cl.filterMap fun g => gRds.getD g none).eraseDups) = true)
    (h14 : (c.maps == (fn.params.toList ++ s.plain.varTypes Try.prog).any (Try.prog.mapsRec ·)) = true)
    (h15 : (c.ifaces == (fn.params.toList ++ s.plain.varTypes Try.prog).any (Try.prog.ifacesRec ·)) = true)
    (h16 : (c.mapsOut == Try.prog.mapsAmong fn.resultTypes.toList) = true)
    (h17 : (c.loops == (fn.params.toList ++ s.plain.varTypes Try.prog).any (Try.prog.loopsFrom ·)) = true)
    (h17b : (c.wideKeys == (fn.params.toList ++ s.plain.varTypes Try.prog ++ fn.resultTypes.toList).any (Try.prog.wideKeysFrom ·)) = true)
    (h18 : s.vars.all (Try.prog.varReadable ·) = true) (h19 : fn.resultTypes.all (fun t => Try.prog.readableRec t && decide (t < Try.prog.types.size)) = true)
    (h20 : (c.ifacesOut == fn.resultTypes.toList.any (Try.prog.ifacesRec ·)) = true) (h21 : (c.loopsOut == fn.resultTypes.toList.any (Try.prog.loopsFrom ·)) = true)
    (h22 : (c.plainKeys == true) = true) (h23 : c.shortTexts.isNone = true) (h24 : (c.lifted == false) = true) (h25 : (some Make.cut == some c.make) = true)
    (h26 : (c.kinds == (if c.domain.isEmpty then [] else fn.params.toList.map fun t => match Try.prog.underlying t with | some (.int k) => some k | _ => none)) = true)
    (h27 : (c.pinned == c.pinnedBy) = true)
    (h28 : (c.veiled == (fn.params.toList ++ s.plain.varTypes Try.prog ++ fn.resultTypes.toList).any (Try.prog.veiledRec ·)) = true)
    (h29 : c.veiledFits Try.prog fn.params.toList (fn.params.toList ++ s.plain.varTypes Try.prog ++ fn.resultTypes.toList) = true) :
    joinedFacts Try.pinned.checked.prog f fn s c = true := by
  have hc := clos_mk hcl
  rw [prog_eq]
  unfold joinedFacts
  rw [inPlace_eq, unfollowed_eq, recurses_eq, varsNamed_eq, make_eq, lifts_eq, may_eq, laid_eq, rowed_eq, heard_eq, stops_eq, knobs_eq, keys_eq, hc]
  have e : (fun g => (gLeads.getD g []).any fun h => (closT gLeads (fuelT gLeads) [h] []).contains g) = (fun g => (gLeads.getD g []).any fun h => (closB gLeads (fuelT gLeads) [h] 0 []).contains g) := by
    funext g; simp only [walk_eq]
  rw [e, h1, h4, h5, h6, h8, h10, h11, h12, h13, h14, h15, h16, h17, h17b, h18, h19, h20, h21, h22, h23, h24, h25]
  exact and_mk (and_mk (and_mk (and_mk rfl h26) h27) h28) h29
end Go.Proofs.Ytklnikaakpebnaa
