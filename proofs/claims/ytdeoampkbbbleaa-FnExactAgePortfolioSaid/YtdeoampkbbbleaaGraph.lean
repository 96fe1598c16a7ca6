/- Which functions, and which variables, each function of the translation names; and what a function reaches, reckoned by these tables. No condition. WRITTEN BY PROGRAM (wip/gen_graph.py). -/
import Derived.Test.YtdeoampkbbbleaaRows
import Derived.JoinedOf
namespace Go.Proofs.Ytdeoampkbbbleaa
open Go

def gLeads : List (List Nat) := [[], [], [1], [18, 19, 21, 22, 20, 21, 22, 23, 21, 24, 22, 25], [18, 19, 21, 22, 26, 21, 22, 27, 21, 24, 22, 25], [18, 19, 21, 22, 29, 28, 21, 22, 29, 30, 25, 21, 24, 22, 25, 29, 31, 32, 33, 34, 25, 33, 35, 21, 22, 29, 30, 25, 35], 
  [18, 19, 21, 22, 36, 21, 22, 37, 21, 24, 22, 25], [38, 39, 40, 41, 42, 43, 44, 45, 46, 47, 48, 49, 50, 51, 40, 40, 52], [38, 53, 54, 55, 56, 57, 58, 58, 54], 
  [38, 59, 60, 61, 62, 63, 58, 58, 58, 64, 58, 58], [38, 65, 66, 67, 68, 69, 70, 71, 72, 73, 58, 74], [38, 75, 76, 77, 78, 79, 80, 81, 82, 83, 84, 85, 50, 50, 50, 50, 52, 52, 76], 
  [38, 86, 87, 88, 89, 90, 91, 92, 93, 94, 95, 96, 97, 98, 99], [38, 100, 101, 102, 103, 104, 105, 106, 107], [38, 108, 109, 110, 111, 107, 112, 113, 114, 50, 107, 107], 
  [38, 115, 116, 117, 118, 119, 120, 50, 121, 121], [38, 122, 123, 124, 125, 121, 126, 99, 127, 128, 129, 130, 121, 121], [38, 131, 132, 133, 134, 135, 136, 137, 138, 139, 107, 107], 
  [140], [], [141, 142, 98], [143], [144], [97, 146, 145], [148], [149], [20, 150], [23, 151], [20, 142, 150, 152], [], [153, 154, 155], [], [156], [], [], 
  [], [20, 157, 157, 158], [23, 160, 161, 159], [], [162, 163, 164], [51, 165, 166], [167, 168], [40], [167, 168], [51, 169], [170, 171], [51, 169], [170, 171], 
  [51, 166], [170, 172], [], [173], [], [174], [175, 177, 161, 176], [178, 157, 179, 157, 157, 180], [175, 177, 161, 176], [55], [181, 161], [162, 182, 183, 184, 185, 184, 183], 
  [181, 186, 161, 161, 161, 176], [178, 142, 157, 157, 157, 180], [175, 161, 161], [178, 157, 157, 157], [186, 186, 187], [162, 188], [189, 190], [191, 192], 
  [162, 188, 183, 185, 183], [189, 161, 161, 161, 161, 176], [142, 191, 193, 180], [189, 161, 161, 161, 161, 176], [142, 191, 193, 180], [50], [194, 186, 186], 
  [162, 195, 184], [196, 186, 197], [198, 152, 199, 200, 201], [202, 203], [204], [202, 205], [204], [202, 206], [204], [202, 207], [204], [162, 208], [96, 197, 209, 210, 210], 
  [211, 212, 213, 215, 152, 214], [96, 216], [211, 215], [96, 217], [211, 218], [96, 154], [211, 219], [162, 195], [97, 220, 186, 197, 209], [74, 165], [221, 222], 
  [223, 159], [162, 195, 183, 184, 224, 185, 184, 224, 183], [225, 159], [227, 226, 199, 199, 152, 158], [225, 159], [227, 226, 228], [103, 229, 159], [227, 226, 230, 158, 228], 
  [103], [162, 195, 183, 184, 185, 184, 183], [225, 186, 231], [142, 226, 152, 199, 232], [162, 195, 184, 224], [227, 226, 199, 152, 158], [74, 165, 186, 197, 159], 
  [227, 226, 179, 152, 199, 152, 158], [162, 233, 234], [121, 121], [236, 235, 213, 152, 158, 213, 152, 158], [162, 233, 183, 234], [223, 197, 159], [236, 235, 152, 200, 152, 158], 
  [223, 159], [125], [223, 231], [236, 235, 213, 152, 232], [162, 233, 234], [236, 235, 213, 152, 158], [236, 235, 237], [223], [235, 213, 152], [186, 186, 186, 231], 
  [238], [134, 107], [135, 199, 152, 158], [136, 107], [239, 199, 152, 158, 240], [241, 190, 107], [239, 240], [189, 54, 190, 54, 176], [191, 55, 192, 55, 180], 
  [242], [211, 219, 142, 152], [], [29], [243], [244], [147], [186, 245], [31], [246], [219], [154], [157, 157, 247], [23, 186], [248], [197, 249], [34], 
  [], [232], [250], [161, 161], [248], [], [183, 183, 183, 183, 183, 183, 171, 183, 183, 185, 185], [183, 185, 183, 185], [186], [], [170, 222], [172], [], 
  [251], [], [], [253, 252], [162, 182, 184], [181, 161], [187], [], [221, 142], [], [254], [74, 186], [185, 183, 185, 256, 255, 183, 185, 185], [], [183, 179, 179, 185, 183], 
  [183], [], [], [182, 182, 184, 184, 183, 183, 183], [74, 74, 257, 186, 161, 161], [161, 161, 161], [221, 221, 142, 142, 157, 157], [157, 157, 157], [157, 157, 157, 157], 
  [], [182, 164], [74, 165], [258, 259, 161, 160], [221, 222, 142], [179, 152], [157, 157, 247], [179, 200], [196, 197], [], [198, 179, 152, 199, 200, 201], 
  [], [], [], [233, 234, 183, 185, 98, 211, 183, 179, 183, 183, 185], [], [223, 231], [98, 142, 236, 235, 152], [199, 199, 199], [201, 201, 201, 201, 201, 152, 152], 
  [], [237], [99], [216, 260], [215, 261], [179], [186, 165, 186, 186, 262], [142, 142], [142], [74, 220, 197, 263], [183, 185, 185, 183], [74, 165, 186, 186, 262, 197], 
  [198, 142, 152], [142], [199, 152, 158], [165, 262, 258, 177], [247], [264, 265], [], [195, 183, 183, 183, 185, 185, 184], [183, 185, 185, 183], [142, 226], 
  [142], [213, 212, 158], [162, 188, 164, 224], [222, 227, 191, 152, 152], [192, 199, 152, 158], [74, 74, 257, 165, 186, 197, 197], [], [], [], [96, 154, 186, 197, 249], 
  [], [], [194], [209, 209, 263], [231], [142], [266], [186], [254], [142, 142, 251, 261], [183, 183, 183], [186, 186, 186], [], [], [267], [268], [186], 
  [], [], [269], [], [], [], [270], [], [], [], [], [], [], [], [], [], [], [], [], [], [], [], [], [], [], []]
def gUnf : List Bool := [false, false, false, false, false, false, false, false, false, false, false, false, false, false, false, false, false, false, false, false, false, false, 
  false, false, false, false, false, false, false, false, false, false, false, false, false, false, false, false, false, false, false, false, false, false, 
  false, false, false, false, false, false, false, false, false, false, false, false, false, false, false, false, false, false, false, false, false, false, 
  false, false, false, false, false, false, false, false, false, false, false, false, false, false, false, false, false, false, false, false, false, false, 
  false, false, false, false, false, false, false, false, false, false, false, false, false, false, false, false, false, false, false, false, false, false, 
  false, false, false, false, false, false, false, false, false, false, false, false, false, false, false, false, false, false, false, false, false, false, 
  false, false, false, false, false, false, false, false, false, false, false, false, false, false, false, false, false, false, false, false, false, false, 
  false, false, false, false, false, false, false, false, false, false, false, false, false, false, false, false, false, false, false, false, false, false, 
  false, false, false, false, false, false, false, false, false, false, false, false, false, false, false, false, false, false, false, false, false, false, 
  false, false, false, false, true, false, false, false, false, false, false, false, false, false, false, false, false, false, false, false, false, false, 
  false, false, false, false, false, false, false, false, false, false, false, false, false, false, false, false, false, false, false, false, false, false, 
  false, false, true, false, false, false, false, false, false, false, false, false, false, false, false, false, false, false, false, false, false, false, 
  false, false, true, false, false, false, false, false, false, false, false, false, false, false, false, false, false, false, false, false, false, false, 
  false, false, false]
def gGlo : List (List Nat) := [[], [], [], [], [], [], [], [], [], [], [], [], [], [], [], [], [], [], [], [], [], [], [], [], [], [], [], [], [], [], [], [], [], [], [], [], [], [], 
  [], [], [], [], [], [], [], [], [], [], [], [], [], [], [], [], [], [], [], [], [], [], [], [], [], [], [], [], [], [], [], [], [], [], [], [], [], [], 
  [], [], [], [], [], [], [], [], [], [], [], [], [], [], [], [], [], [], [], [], [], [], [], [], [], [], [], [], [], [], [], [], [], [], [], [], [], [], 
  [], [], [], [], [], [], [], [], [], [], [], [], [], [], [], [], [], [], [], [], [], [], [], [], [], [], [], [], [], [], [], [], [], [], [], [], [], [], 
  [], [], [], [], [], [], [], [], [], [], [], [], [], [], [], [], [], [], [], [], [], [], [], [], [], [], [], [], [], [], [], [], [], [], [], [], [], [], 
  [], [], [], [], [], [], [], [], [], [], [], [], [], [], [], [], [], [], [], [], [], [], [], [], [], [], [], [], [], [], [], [], [], [], [], [], [], [], 
  [], [], [], [], [], [], [], [], [], [], [], [], [], [], [], [], [], [], [], [], [], [], [], [], [], [], [], [], [], [], [], [], [], [], [], [], [], [0, 1], 
  [], [], [], [], [], [], [], [], [], [], [], [], [], [], [], [], [], [], [], [], [], [], []]
noncomputable def gInp : List (Option String) := [some Try.f0.name, some Try.f1.name, none, none, none, none, none, none, none, none, none, none, none, none, none, none, none, none, none, none, none, none, 
  none, none, none, none, none, none, none, none, none, none, none, none, none, none, none, none, none, none, none, none, none, none, none, none, none, none, 
  none, none, none, none, none, none, none, none, none, none, none, none, none, none, none, none, none, none, none, none, none, none, none, none, none, none, 
  none, none, none, none, none, none, none, none, none, none, none, none, none, none, none, none, none, none, none, none, none, none, none, none, none, none, 
  none, none, none, none, none, none, none, none, none, none, none, none, none, none, none, none, none, none, none, none, none, none, none, none, none, none, 
  none, none, none, none, none, none, none, none, none, none, none, none, none, none, none, none, none, none, none, none, none, none, none, none, none, none, 
  none, none, none, none, none, none, none, none, none, none, none, none, none, none, none, none, none, none, none, none, none, none, none, none, none, none, 
  none, none, none, none, none, none, none, none, none, none, none, none, none, none, none, none, none, none, none, none, none, none, none, none, none, none, 
  none, none, none, none, none, none, none, none, none, none, none, none, none, none, none, none, none, none, none, none, none, none, none, none, none, none, 
  none, none, none, none, none, none, none, none, none, none, none, none, none, none, none, none, none, none, none, none, none, none, none, none, none, none, 
  none, none, none, none, none, none, none, none, none, none, none, none, none, none, none, some Try.f271.name, some Try.f272.name, some Try.f273.name, some Try.f274.name, 
  some Try.f275.name, some Try.f276.name, some Try.f277.name, some Try.f278.name, some Try.f279.name, some Try.f280.name, some Try.f281.name, some Try.f282.name, 
  some Try.f283.name, some Try.f284.name, some Try.f285.name, some Try.f286.name, some Try.f287.name, some Try.f288.name]
def gRds : List (Option String) := [none, none, none, none, none, none, none, none, none, none, none, none, none, none, none, none, none, none, none, none, none, none, none, none, none, none, 
  none, none, none, none, none, none, none, none, none, none, none, none, none, none, none, none, none, none, none, none, none, none, none, none, none, none, 
  none, none, none, none, none, none, none, none, none, none, none, none, none, none, none, none, none, none, none, none, none, none, none, none, none, none, 
  none, none, none, none, none, none, none, none, none, none, none, none, none, none, none, none, none, none, none, none, none, none, none, none, none, none, 
  none, none, none, none, none, none, none, none, none, none, none, none, none, none, none, none, none, none, none, none, none, none, none, none, none, none, 
  none, none, none, none, none, none, none, none, none, none, none, none, none, none, none, none, none, none, none, none, none, none, none, none, none, none, 
  none, none, none, none, none, none, none, none, none, none, none, none, none, none, none, none, none, none, none, none, none, none, none, none, none, none, 
  none, none, none, none, none, none, none, none, none, none, none, none, none, none, none, none, none, none, none, none, none, none, none, none, none, none, 
  none, none, none, none, none, none, none, none, none, none, none, none, none, none, none, none, none, none, none, none, none, none, none, none, none, none, 
  none, none, none, none, none, none, none, none, none, none, none, none, none, none, none, none, none, none, none, none, none, none, none, none, none, none, 
  none, none, none, none, none, none, none, none, none, none, none, none, none, none, none, none, none, none, none, none, none, none, none, none, none, none, 
  none, none, none]
theorem gLeads_eq : Try.prog.funcs.toList.map Try.prog.leadsTo = gLeads := by kernel_rfl
theorem gUnf_eq : Try.prog.funcs.toList.map (fun fn => match fn.body with | some c => c.unfollowed | none => entryCalls fn) = gUnf := by kernel_rfl
theorem gGlo_eq : Try.prog.funcs.toList.map (fun fn => (fn.body).elim [] Code.globalsNamed) = gGlo := by kernel_rfl
theorem gInp_eq : Try.prog.funcs.toList.map (fun fn => if fn.ours || fn.body.isNone || fn.name == "runtime.NumGoroutine" then some fn.name else none) = gInp := by kernel_rfl
theorem gRds_eq : Try.prog.funcs.toList.map (fun fn => if fn.body.isNone then entryReads.lookup fn.name else none) = gRds := by kernel_rfl

theorem at_list {a b : Type} (xs : Array a) (h : a → b) (d : b) (g : Nat) : (xs[g]?).elim d h = (xs.toList.map h).getD g d := by
  rw [← Array.getElem?_toList, List.getD_eq_getElem?_getD, List.getElem?_map]
  cases xs.toList[g]? <;> rfl

def closT (L : List (List Nat)) : Nat → List Nat → List Nat → List Nat
  | 0, _, seen => seen.reverse
  | _, [], seen => seen.reverse
  | n + 1, f :: todo, seen => if seen.contains f then closT L n todo seen else closT L n (L.getD f [] ++ todo) (f :: seen)
def fuelT (L : List (List Nat)) : Nat := 1 + (L.map fun l => l.length + 1).sum
section
variable {P : Program} {L : List (List Nat)}
theorem via_eq (hL : P.funcs.toList.map P.leadsTo = L) (n : Nat) : ∀ todo seen, P.closureVia n todo seen = closT L n todo seen := by
  induction n with
  | zero => intro todo seen; simp [Program.closureVia, closT]
  | succ n ih =>
    intro todo seen
    cases todo with
    | nil => simp [Program.closureVia, closT]
    | cons f todo => simp only [Program.closureVia, closT, ih, at_list, hL]
theorem closure_eq0 (hL : P.funcs.toList.map P.leadsTo = L) (f : Nat) : P.closure f = closT L (fuelT L) [f] [] := by
  have e : (1 + (P.funcs.toList.map fun fn => (P.leadsTo fn).length + 1).sum) = fuelT L := by
    unfold fuelT; rw [← hL, List.map_map]; rfl
  unfold Program.closure
  rw [via_eq hL, ← e]
theorem inPlace_eq0 (hL : P.funcs.toList.map P.leadsTo = L) {I : List (Option String)} (hI : P.funcs.toList.map (fun fn => if fn.ours || fn.body.isNone || fn.name == "runtime.NumGoroutine" then some fn.name else none) = I) (f : Nat) : P.inPlace f = (closT L (fuelT L) [f] []).filterMap fun g => I.getD g none := by
  unfold Program.inPlace
  rw [closure_eq0 hL]
  congr 1; funext g
  rw [← hI, ← at_list]
  cases P.funcs[g]? <;> rfl
theorem unfollowed_eq0 (hL : P.funcs.toList.map P.leadsTo = L) {U : List Bool} (hU : P.funcs.toList.map (fun fn => match fn.body with | some c => c.unfollowed | none => entryCalls fn) = U) (f : Nat) : P.unfollowed f = (closT L (fuelT L) [f] []).any fun g => U.getD g false := by
  unfold Program.unfollowed
  rw [closure_eq0 hL]
  congr 1; funext g
  rw [← hU, ← at_list]
  cases P.funcs[g]? <;> rfl
theorem recurses_eq0 (hL : P.funcs.toList.map P.leadsTo = L) {U : List Bool} (hU : P.funcs.toList.map (fun fn => match fn.body with | some c => c.unfollowed | none => entryCalls fn) = U) (f : Nat) : P.recurses f = ((closT L (fuelT L) [f] []).any (fun g => U.getD g false) || (closT L (fuelT L) [f] []).any fun g => (L.getD g []).any fun h => (closT L (fuelT L) [h] []).contains g) := by
  unfold Program.recurses
  rw [unfollowed_eq0 hL hU, closure_eq0 hL]
  congr 2; funext g
  rw [at_list, hL]
  congr 1; funext h
  rw [closure_eq0 hL]
theorem varsNamed_eq0 (hL : P.funcs.toList.map P.leadsTo = L) {G : List (List Nat)} {R : List (Option String)} (hG : P.funcs.toList.map (fun fn => (fn.body).elim [] Code.globalsNamed) = G) (hR : P.funcs.toList.map (fun fn => if fn.body.isNone then entryReads.lookup fn.name else none) = R) (f : Nat) :
    P.varsNamed f = ((((closT L (fuelT L) [f] []).flatMap fun g => G.getD g []).eraseDups).filterMap (fun g => (P.globals[g]?).map (·.name)) ++ (closT L (fuelT L) [f] []).filterMap fun g => R.getD g none).eraseDups := by
  unfold Program.varsNamed
  rw [closure_eq0 hL]
  congr 2
  · congr 2; congr 1; funext g
    rw [← hG, ← at_list]
    cases P.funcs[g]? <;> rfl
  · congr 1; funext g
    rw [← hR, ← at_list]
    cases P.funcs[g]? <;> rfl
end
theorem inPlace_eq (f : Nat) : Try.prog.inPlace f = (closT gLeads (fuelT gLeads) [f] []).filterMap fun g => gInp.getD g none := inPlace_eq0 gLeads_eq gInp_eq f
theorem unfollowed_eq (f : Nat) : Try.prog.unfollowed f = (closT gLeads (fuelT gLeads) [f] []).any fun g => gUnf.getD g false := unfollowed_eq0 gLeads_eq gUnf_eq f
theorem recurses_eq (f : Nat) : Try.prog.recurses f = ((closT gLeads (fuelT gLeads) [f] []).any (fun g => gUnf.getD g false) || (closT gLeads (fuelT gLeads) [f] []).any fun g => (gLeads.getD g []).any fun h => (closT gLeads (fuelT gLeads) [h] []).contains g) := recurses_eq0 gLeads_eq gUnf_eq f
theorem varsNamed_eq (f : Nat) : Try.prog.varsNamed f = ((((closT gLeads (fuelT gLeads) [f] []).flatMap fun g => gGlo.getD g []).eraseDups).filterMap (fun g => (Try.prog.globals[g]?).map (·.name)) ++ (closT gLeads (fuelT gLeads) [f] []).filterMap fun g => gRds.getD g none).eraseDups := varsNamed_eq0 gLeads_eq gGlo_eq gRds_eq f
/-- The same walk with the set of what is seen held in one number: cheap to reckon in the kernel. -/
def closB (L : List (List Nat)) : Nat → List Nat → Nat → List Nat → List Nat
  | 0, _, _, seen => seen.reverse
  | _, [], _, seen => seen.reverse
  | n + 1, f :: todo, m, seen => cond (m.testBit f) (closB L n todo m seen) (closB L n (L.getD f [] ++ todo) (m ||| 1 <<< f) (f :: seen))
theorem closB_eq (L : List (List Nat)) (n : Nat) : ∀ todo m seen, (∀ x, m.testBit x = seen.contains x) → closT L n todo seen = closB L n todo m seen := by
  induction n with
  | zero => intro todo m seen _; simp [closT, closB]
  | succ n ih =>
    intro todo m seen h
    cases todo with
    | nil => simp [closT, closB]
    | cons f todo =>
      simp only [closT, closB]
      rw [h f]
      cases hc : seen.contains f with
      | true => simp only [if_true, cond_true]; exact ih _ _ _ h
      | false =>
        simp only [cond_false]
        rw [if_neg (by simp)]
        refine ih _ _ _ fun x => ?_
        rw [Nat.testBit_or, h x, Nat.shiftLeft_eq, Nat.one_mul, Nat.testBit_two_pow, List.contains_cons, Bool.or_comm]
        congr 1
        by_cases e : f = x
        · subst e; simp
        · simp [e, Ne.symm e]
theorem clos_mk {L : List (List Nat)} {f : Nat} {r : List Nat} (h : closB L (fuelT L) [f] 0 [] = r) : closT L (fuelT L) [f] [] = r := by
  rw [closB_eq L _ _ 0 _ (fun x => by simp), h]
theorem strip_cut (ls : List String) (h : ls.all (fun o => "cut".toList != o.toList) = true) (r : List (List Char)) : stripLifts ls ("cut".toList :: r) = ([], "cut".toList :: r) := by
  induction ls with
  | nil => rfl
  | cons o os ih =>
    rw [List.all_cons, Bool.and_eq_true] at h
    unfold stripLifts
    rw [if_neg (by simpa using h.1)]
    exact ih h.2
theorem make_cut {P : Program} {r : List (List Char)} (h : behindMainWord (wordsSigns P.initOrder.toList) = "cut".toList :: r) : P.make = some .cut := by
  unfold Program.make
  generalize P.headLifts = H
  rw [h]
  rfl
theorem lifts_cut {P : Program} {r : List (List Char)} (h : behindMainWord (wordsSigns P.initOrder.toList) = "cut".toList :: r) : P.liftsFinal = false := by
  unfold Program.liftsFinal Program.headLifts
  rw [h, strip_cut _ (by kernel_rfl)]
  rfl
theorem may_cut {P : Program} {r : List (List Char)} (h : behindMainWord (wordsSigns P.initOrder.toList) = "cut".toList :: r) (h1 : P.laysLater = false) (h2 : P.bearsReflect = false) (h3 : P.doorFits [] = true) : P.mayEnter = true := by
  unfold Program.mayEnter
  rw [h]
  dsimp only
  rw [strip_cut _ (by kernel_rfl), h1, h2, h3]
  rfl
theorem lays : Try.prog.laysLater = false := by kernel_rfl
theorem bears : Try.prog.bearsReflect = false := by kernel_rfl
theorem door : Try.prog.doorFits [] = true := by kernel_rfl
set_option maxRecDepth 100000 in
theorem order_ : Try.prog.initOrder.toList = ([104, 97, 114, 110, 101, 115, 115, 32, 51, 56, 56, 97, 54, 98, 52, 50, 48, 48, 48, 57, 101, 102, 49, 54, 51, 49, 55, 57, 98, 56, 54, 48, 97, 49, 54, 98, 52, 51, 98, 97, 55, 102, 102, 51, 97, 100, 55, 50, 97, 97, 52, 98, 100, 55, 97, 50, 100, 56, 49, 100, 50, 98, 51, 56, 100, 52, 51, 97, 54, 52, 53, 54, 32, 99, 117, 116, 32, 97, 116, 32, 108, 111, 111, 112, 46, 101, 120, 97, 109, 112, 108, 101, 47, 103, 48, 49, 48, 50, 53, 47, 108, 97, 119, 115, 46, 70, 110, 69, 120, 97, 99, 116, 73, 115, 80, 111, 114, 116, 102, 111, 108, 105, 111, 32, 108, 111, 111, 112, 46, 101, 120, 97, 109, 112, 108, 101, 47, 103, 48, 49, 48, 50, 53, 47, 108, 97, 119, 115, 46, 70, 110, 69, 120, 97, 99, 116, 77, 97, 116, 117, 114, 105, 110, 103, 83, 117, 109, 115, 32, 108, 111, 111, 112, 46, 101, 120, 97, 109, 112, 108, 101, 47, 103, 48, 49, 48, 50, 53, 47, 108, 97, 119, 115, 46, 70, 110, 69, 120, 97, 99, 116, 65, 103, 101, 80, 111, 114, 116, 102, 111, 108, 105, 111, 32, 108, 111, 111, 112, 46, 101, 120, 97, 109, 112, 108, 101, 47, 103, 48, 49, 48, 50, 53, 47, 108, 97, 119, 115, 46, 70, 110, 69, 120, 97, 99, 116, 69, 120, 112, 101, 99, 116, 101, 100, 67, 108, 97, 105, 109, 115, 32, 108, 111, 111, 112, 46, 101, 120, 97, 109, 112, 108, 101, 47, 103, 48, 49, 48, 50, 53, 47, 108, 97, 119, 115, 46, 70, 110, 83, 117, 114, 112, 108, 117, 115, 32, 108, 111, 111, 112, 46, 101, 120, 97, 109, 112, 108, 101, 47, 103, 48, 49, 48, 50, 53, 47, 108, 97, 119, 115, 46, 70, 110, 69, 120, 112, 101, 99, 116, 101, 100, 32, 108, 111, 111, 112, 46, 101, 120, 97, 109, 112, 108, 101, 47, 103, 48, 49, 48, 50, 53, 47, 108, 97, 119, 115, 46, 70, 110, 83, 117, 114, 118, 105, 118, 97, 108, 32, 108, 111, 111, 112, 46, 101, 120, 97, 109, 112, 108, 101, 47, 103, 48, 49, 48, 50, 53, 47, 108, 97, 119, 115, 46, 70, 110, 74, 111, 105, 110, 116, 32, 108, 111, 111, 112, 46, 101, 120, 97, 109, 112, 108, 101, 47, 103, 48, 49, 48, 50, 53, 47, 108, 97, 119, 115, 46, 70, 110, 67, 111, 108, 117, 109, 110, 115, 32, 108, 111, 111, 112, 46, 101, 120, 97, 109, 112, 108, 101, 47, 103, 48, 49, 48, 50, 53, 47, 108, 97, 119, 115, 46, 70, 110, 80, 111, 108, 105, 99, 105, 101, 115, 32, 108, 111, 111, 112, 46, 101, 120, 97, 109, 112, 108, 101, 47, 103, 48, 49, 48, 50, 53, 47, 108, 97, 119, 115, 46, 70, 110, 65, 110, 110, 117, 105, 116, 105, 101, 115, 32, 108, 111, 111, 112, 46, 101, 120, 97, 109, 112, 108, 101, 47, 103, 48, 49, 48, 50, 53, 47, 108, 97, 119, 115, 46, 70, 110, 65, 109, 111, 117, 110, 116, 115, 32, 108, 111, 111, 112, 46, 101, 120, 97, 109, 112, 108, 101, 47, 103, 48, 49, 48, 50, 53, 47, 108, 97, 119, 115, 46, 70, 110, 65, 115, 115, 117, 114, 97, 110, 99, 101, 115, 32, 108, 111, 111, 112, 46, 101, 120, 97, 109, 112, 108, 101, 47, 103, 48, 49, 48, 50, 53, 47, 108, 97, 119, 115, 46, 70, 110, 83, 117, 109, 115, 70, 111, 114, 32, 108, 111, 111, 112, 46, 101, 120, 97, 109, 112, 108, 101, 47, 103, 48, 49, 48, 50, 53, 47, 108, 97, 119, 115, 46, 70, 110, 87, 105, 100, 111, 119, 115].map Char.ofNat) := by
  have e : Try.prog.initOrder = String.ofList ([104, 97, 114, 110, 101, 115, 115, 32, 51, 56, 56, 97, 54, 98, 52, 50, 48, 48, 48, 57, 101, 102, 49, 54, 51, 49, 55, 57, 98, 56, 54, 48, 97, 49, 54, 98, 52, 51, 98, 97, 55, 102, 102, 51, 97, 100, 55, 50, 97, 97, 52, 98, 100, 55, 97, 50, 100, 56, 49, 100, 50, 98, 51, 56, 100, 52, 51, 97, 54, 52, 53, 54, 32, 99, 117, 116, 32, 97, 116, 32, 108, 111, 111, 112, 46, 101, 120, 97, 109, 112, 108, 101, 47, 103, 48, 49, 48, 50, 53, 47, 108, 97, 119, 115, 46, 70, 110, 69, 120, 97, 99, 116, 73, 115, 80, 111, 114, 116, 102, 111, 108, 105, 111, 32, 108, 111, 111, 112, 46, 101, 120, 97, 109, 112, 108, 101, 47, 103, 48, 49, 48, 50, 53, 47, 108, 97, 119, 115, 46, 70, 110, 69, 120, 97, 99, 116, 77, 97, 116, 117, 114, 105, 110, 103, 83, 117, 109, 115, 32, 108, 111, 111, 112, 46, 101, 120, 97, 109, 112, 108, 101, 47, 103, 48, 49, 48, 50, 53, 47, 108, 97, 119, 115, 46, 70, 110, 69, 120, 97, 99, 116, 65, 103, 101, 80, 111, 114, 116, 102, 111, 108, 105, 111, 32, 108, 111, 111, 112, 46, 101, 120, 97, 109, 112, 108, 101, 47, 103, 48, 49, 48, 50, 53, 47, 108, 97, 119, 115, 46, 70, 110, 69, 120, 97, 99, 116, 69, 120, 112, 101, 99, 116, 101, 100, 67, 108, 97, 105, 109, 115, 32, 108, 111, 111, 112, 46, 101, 120, 97, 109, 112, 108, 101, 47, 103, 48, 49, 48, 50, 53, 47, 108, 97, 119, 115, 46, 70, 110, 83, 117, 114, 112, 108, 117, 115, 32, 108, 111, 111, 112, 46, 101, 120, 97, 109, 112, 108, 101, 47, 103, 48, 49, 48, 50, 53, 47, 108, 97, 119, 115, 46, 70, 110, 69, 120, 112, 101, 99, 116, 101, 100, 32, 108, 111, 111, 112, 46, 101, 120, 97, 109, 112, 108, 101, 47, 103, 48, 49, 48, 50, 53, 47, 108, 97, 119, 115, 46, 70, 110, 83, 117, 114, 118, 105, 118, 97, 108, 32, 108, 111, 111, 112, 46, 101, 120, 97, 109, 112, 108, 101, 47, 103, 48, 49, 48, 50, 53, 47, 108, 97, 119, 115, 46, 70, 110, 74, 111, 105, 110, 116, 32, 108, 111, 111, 112, 46, 101, 120, 97, 109, 112, 108, 101, 47, 103, 48, 49, 48, 50, 53, 47, 108, 97, 119, 115, 46, 70, 110, 67, 111, 108, 117, 109, 110, 115, 32, 108, 111, 111, 112, 46, 101, 120, 97, 109, 112, 108, 101, 47, 103, 48, 49, 48, 50, 53, 47, 108, 97, 119, 115, 46, 70, 110, 80, 111, 108, 105, 99, 105, 101, 115, 32, 108, 111, 111, 112, 46, 101, 120, 97, 109, 112, 108, 101, 47, 103, 48, 49, 48, 50, 53, 47, 108, 97, 119, 115, 46, 70, 110, 65, 110, 110, 117, 105, 116, 105, 101, 115, 32, 108, 111, 111, 112, 46, 101, 120, 97, 109, 112, 108, 101, 47, 103, 48, 49, 48, 50, 53, 47, 108, 97, 119, 115, 46, 70, 110, 65, 109, 111, 117, 110, 116, 115, 32, 108, 111, 111, 112, 46, 101, 120, 97, 109, 112, 108, 101, 47, 103, 48, 49, 48, 50, 53, 47, 108, 97, 119, 115, 46, 70, 110, 65, 115, 115, 117, 114, 97, 110, 99, 101, 115, 32, 108, 111, 111, 112, 46, 101, 120, 97, 109, 112, 108, 101, 47, 103, 48, 49, 48, 50, 53, 47, 108, 97, 119, 115, 46, 70, 110, 83, 117, 109, 115, 70, 111, 114, 32, 108, 111, 111, 112, 46, 101, 120, 97, 109, 112, 108, 101, 47, 103, 48, 49, 48, 50, 53, 47, 108, 97, 119, 115, 46, 70, 110, 87, 105, 100, 111, 119, 115].map Char.ofNat) := by kernel_rfl
  rw [e]; exact String.toList_ofList
set_option maxRecDepth 100000 in
theorem words : behindMainWord (wordsSigns Try.prog.initOrder.toList) = "cut".toList :: [([97, 116].map Char.ofNat), ([108, 111, 111, 112, 46, 101, 120, 97, 109, 112, 108, 101, 47, 103, 48, 49, 48, 50, 53, 47, 108, 97, 119, 115, 46, 70, 110, 69, 120, 97, 99, 116, 73, 115, 80, 111, 114, 116, 102, 111, 108, 105, 111].map Char.ofNat), ([108, 111, 111, 112, 46, 101, 120, 97, 109, 112, 108, 101, 47, 103, 48, 49, 48, 50, 53, 47, 108, 97, 119, 115, 46, 70, 110, 69, 120, 97, 99, 116, 77, 97, 116, 117, 114, 105, 110, 103, 83, 117, 109, 115].map Char.ofNat), ([108, 111, 111, 112, 46, 101, 120, 97, 109, 112, 108, 101, 47, 103, 48, 49, 48, 50, 53, 47, 108, 97, 119, 115, 46, 70, 110, 69, 120, 97, 99, 116, 65, 103, 101, 80, 111, 114, 116, 102, 111, 108, 105, 111].map Char.ofNat), ([108, 111, 111, 112, 46, 101, 120, 97, 109, 112, 108, 101, 47, 103, 48, 49, 48, 50, 53, 47, 108, 97, 119, 115, 46, 70, 110, 69, 120, 97, 99, 116, 69, 120, 112, 101, 99, 116, 101, 100, 67, 108, 97, 105, 109, 115].map Char.ofNat), ([108, 111, 111, 112, 46, 101, 120, 97, 109, 112, 108, 101, 47, 103, 48, 49, 48, 50, 53, 47, 108, 97, 119, 115, 46, 70, 110, 83, 117, 114, 112, 108, 117, 115].map Char.ofNat), ([108, 111, 111, 112, 46, 101, 120, 97, 109, 112, 108, 101, 47, 103, 48, 49, 48, 50, 53, 47, 108, 97, 119, 115, 46, 70, 110, 69, 120, 112, 101, 99, 116, 101, 100].map Char.ofNat), ([108, 111, 111, 112, 46, 101, 120, 97, 109, 112, 108, 101, 47, 103, 48, 49, 48, 50, 53, 47, 108, 97, 119, 115, 46, 70, 110, 83, 117, 114, 118, 105, 118, 97, 108].map Char.ofNat), ([108, 111, 111, 112, 46, 101, 120, 97, 109, 112, 108, 101, 47, 103, 48, 49, 48, 50, 53, 47, 108, 97, 119, 115, 46, 70, 110, 74, 111, 105, 110, 116].map Char.ofNat), ([108, 111, 111, 112, 46, 101, 120, 97, 109, 112, 108, 101, 47, 103, 48, 49, 48, 50, 53, 47, 108, 97, 119, 115, 46, 70, 110, 67, 111, 108, 117, 109, 110, 115].map Char.ofNat), ([108, 111, 111, 112, 46, 101, 120, 97, 109, 112, 108, 101, 47, 103, 48, 49, 48, 50, 53, 47, 108, 97, 119, 115, 46, 70, 110, 80, 111, 108, 105, 99, 105, 101, 115].map Char.ofNat), ([108, 111, 111, 112, 46, 101, 120, 97, 109, 112, 108, 101, 47, 103, 48, 49, 48, 50, 53, 47, 108, 97, 119, 115, 46, 70, 110, 65, 110, 110, 117, 105, 116, 105, 101, 115].map Char.ofNat), ([108, 111, 111, 112, 46, 101, 120, 97, 109, 112, 108, 101, 47, 103, 48, 49, 48, 50, 53, 47, 108, 97, 119, 115, 46, 70, 110, 65, 109, 111, 117, 110, 116, 115].map Char.ofNat), ([108, 111, 111, 112, 46, 101, 120, 97, 109, 112, 108, 101, 47, 103, 48, 49, 48, 50, 53, 47, 108, 97, 119, 115, 46, 70, 110, 65, 115, 115, 117, 114, 97, 110, 99, 101, 115].map Char.ofNat), ([108, 111, 111, 112, 46, 101, 120, 97, 109, 112, 108, 101, 47, 103, 48, 49, 48, 50, 53, 47, 108, 97, 119, 115, 46, 70, 110, 83, 117, 109, 115, 70, 111, 114].map Char.ofNat), ([108, 111, 111, 112, 46, 101, 120, 97, 109, 112, 108, 101, 47, 103, 48, 49, 48, 50, 53, 47, 108, 97, 119, 115, 46, 70, 110, 87, 105, 100, 111, 119, 115].map Char.ofNat)] := by
  rw [order_]; kernel_rfl
theorem make_eq : Try.prog.make = some .cut := make_cut words
theorem lifts_eq : Try.prog.liftsFinal = false := lifts_cut words
theorem may_eq : Try.prog.mayEnter = true := may_cut words lays bears door
theorem prog_eq : Try.pinned.checked.prog = Try.prog := rfl
theorem laid_eq : laidOutB Try.prog = true := by kernel_rfl
theorem rowed_eq : mapsRowed Try.prog = true := by kernel_rfl
theorem heard_eq : Try.prog.stopsHeard = true := by kernel_rfl
theorem stops_eq : (Try.prog.stops == []) = true := by kernel_rfl
theorem knobs_eq : (Try.prog.stopKnobs == []) = true := by kernel_rfl
theorem keys_eq : Try.prog.plainKeys = true := by kernel_rfl
theorem and_mk {a b : Bool} (ha : a = true) (hb : b = true) : (a && b) = true := by rw [ha, hb]; rfl
theorem walk_eq (L : List (List Nat)) (n : Nat) (h : Nat) : closT L n [h] [] = closB L n [h] 0 [] := closB_eq L n _ 0 _ (fun x => by simp)
set_option maxRecDepth 100000 in
/-- The closed fact of a row, from its parts: the program's own parts are proved above, the rest is small. -/
theorem facts_mk {f : FuncId} {fn : Func} {s : ChangeSpec} {c : OpenClaim} {cl : List Nat} (hcl : closB gLeads (fuelT gLeads) [f] 0 [] = cl)
    (h1 : c.wf (OpenSpec.ofChange s) = true) (h4 : fn.params.all (Try.prog.readableRec ·) = true) (h5 : namedTie Try.prog c.named s.vars = true) (h6 : (c.stops == []) = true) (h8 : (c.knobs == []) = true)
    (h10 : (c.inPlace == (cl.filterMap fun g => gInp.getD g none)) = true)
    (h11 : (c.unfollowed == (cl.any fun g => gUnf.getD g false)) = true)
    (h12 : (c.recurses == ((cl.any fun g => gUnf.getD g false) || cl.any fun g => (gLeads.getD g []).any fun h => (closB gLeads (fuelT gLeads) [h] 0 []).contains g)) = true)
    (h13 : (c.named == (((cl.flatMap fun g => gGlo.getD g []).eraseDups).filterMap (fun g => (Try.prog.globals[g]?).map (·.name)) ++ cl.filterMap fun g => gRds.getD g none).eraseDups) = true)
    (h14 : (c.maps == (fn.params.toList ++ s.plain.varTypes Try.prog).any (Try.prog.mapsRec ·)) = true)
    (h15 : (c.ifaces == (fn.params.toList ++ s.plain.varTypes Try.prog).any (Try.prog.ifacesRec ·)) = true)
    (h16 : (c.mapsOut == Try.prog.mapsAmong fn.resultTypes.toList) = true)
    (h17 : (c.loops == (fn.params.toList ++ s.plain.varTypes Try.prog).any (Try.prog.loopsFrom ·)) = true)
    (h17b : (c.wideKeys == (fn.params.toList ++ s.plain.varTypes Try.prog ++ fn.resultTypes.toList).any (Try.prog.wideKeysFrom ·)) = true)
    (h18 : s.vars.all (Try.prog.varReadable ·) = true) (h19 : fn.resultTypes.all (fun t => Try.prog.readableRec t && decide (t < Try.prog.types.size)) = true)
    (h20 : (c.ifacesOut == fn.resultTypes.toList.any (Try.prog.ifacesRec ·)) = true) (h21 : (c.loopsOut == fn.resultTypes.toList.any (Try.prog.loopsFrom ·)) = true)
    (h22 : (c.plainKeys == true) = true) (h23 : c.shortTexts.isNone = true) (h24 : (c.lifted == false) = true) (h25 : (some Make.cut == some c.make) = true)
    (h26 : (c.kinds == (if c.domain.isEmpty then [] else fn.params.toList.map fun t => match Try.prog.underlying t with | some (.int k) => some k | _ => none)) = true)
    (h27 : (c.pinned == c.pinnedBy) = true)
    (h28 : (c.veiled == (fn.params.toList ++ s.plain.varTypes Try.prog ++ fn.resultTypes.toList).any (Try.prog.veiledRec ·)) = true)
    (h29 : c.veiledFits Try.prog fn.params.toList (fn.params.toList ++ s.plain.varTypes Try.prog ++ fn.resultTypes.toList) = true) :
    joinedFacts Try.pinned.checked.prog f fn s c = true := by
  have hc := clos_mk hcl
  rw [prog_eq]
  unfold joinedFacts
  rw [inPlace_eq, unfollowed_eq, recurses_eq, varsNamed_eq, make_eq, lifts_eq, may_eq, laid_eq, rowed_eq, heard_eq, stops_eq, knobs_eq, keys_eq, hc]
  have e : (fun g => (gLeads.getD g []).any fun h => (closT gLeads (fuelT gLeads) [h] []).contains g) = (fun g => (gLeads.getD g []).any fun h => (closB gLeads (fuelT gLeads) [h] 0 []).contains g) := by
    funext g; simp only [walk_eq]
  rw [e, h1, h4, h5, h6, h8, h10, h11, h12, h13, h14, h15, h16, h17, h17b, h18, h19, h20, h21, h22, h23, h24, h25]
  exact and_mk (and_mk (and_mk (and_mk rfl h26) h27) h28) h29
end Go.Proofs.Ytdeoampkbbbleaa
