/- Which functions, and which variables, each function of the translation names; and what a function reaches, reckoned by these tables. No condition. WRITTEN BY PROGRAM (wip/gen_graph.py). -/
import Derived.Test.YtegabpilmjicgaaRows
import Derived.JoinedOf
namespace Go.Proofs.Ytegabpilmjicgaa
open Go

def gLeads : List (List Nat) := [[], [], [1], [25, 27, 26, 27, 28, 29, 27, 30, 31, 29, 32, 33, 27, 28, 29, 33], [25, 27, 34, 27, 35, 29, 27, 30, 31, 29, 32, 33, 27, 35, 29, 33], [25, 27, 36, 27, 37, 29, 27, 30, 31, 29, 32, 33, 27, 37, 29, 33], 
  [25, 27, 38, 27, 39, 29, 27, 30, 31, 29, 32, 33, 27, 39, 29, 33], [25, 27, 40, 27, 41, 27, 30], [25, 27, 42, 27, 43, 27, 30], [25, 27, 44, 27, 45, 27, 30], 
  [25, 27, 46, 27, 47, 27, 30], [25, 27, 48, 27, 49, 27, 30], [25, 27, 50, 27, 51, 29, 27, 30, 31, 29, 32, 33, 27, 51, 29, 33], [25, 27, 52, 27, 53, 27, 30], 
  [25, 27, 54, 27, 55, 27, 30], [25, 27, 56, 27, 57, 27, 30], [25, 25, 27, 27, 58, 27, 27, 59, 27, 30, 27, 30], [25, 25, 27, 27, 60, 27, 27, 61, 27, 30, 27, 30], 
  [25, 27, 62, 27, 63, 27, 30], [25, 27, 64, 27, 65, 29, 27, 30, 31, 29, 32, 33, 27, 65, 29, 33], [25, 27, 66, 27, 67, 27, 30], [25, 25, 27, 27, 68, 27, 27, 69, 27, 30, 27, 30], 
  [25, 70, 27, 72, 71, 27, 72, 73, 27, 30, 72, 74], [25, 70, 27, 72, 75, 27, 72, 76, 27, 30, 72, 74], [25, 25, 27, 27, 77, 27, 27, 78, 27, 30, 27, 30], [79], 
  [80], [81], [82, 83], [], [29], [32], [], [], [80], [82, 84], [80], [82, 85], [80], [82, 86], [87, 88, 89], [90], [92, 91, 89, 94, 93], [95, 96, 97], [98, 91, 94, 94, 89, 99], 
  [95, 100], [98, 91, 101], [95, 100], [98, 91, 94, 89, 99], [47], [98, 91, 102, 89, 94, 89, 99], [103, 104, 96, 105, 100], [98, 91, 106, 99, 101], [47, 107, 100], 
  [108, 87, 88, 89, 93], [90, 97], [108, 87, 88, 89, 99], [90, 100], [109, 110], [111, 112, 49], [109, 94, 89, 99, 110], [59, 49], [108, 87, 88, 89, 99, 88, 89, 99], 
  [57, 57], [108, 87, 89, 113, 89, 99], [90, 105, 100], [108, 87, 114], [90, 100], [60, 94, 89, 99], [61, 49], [79], [115, 116], [81], [117], [29], [115, 116, 89, 94, 94, 99], 
  [117, 100], [118, 119, 120, 119, 121], [122, 123, 112, 123, 124], [], [125, 102, 89, 94, 113, 126], [], [127, 105], [], [], [], [], [92, 91], [126, 126, 126, 126, 126, 89, 89], 
  [128, 128, 129], [103, 130, 105, 131], [125, 92, 89], [], [], [102, 89], [103, 104, 96, 96, 132, 105], [], [133, 134], [92], [93], [135], [94, 89, 99], 
  [], [136, 96, 96], [96], [137, 138, 139, 140], [129], [104, 132, 137, 141], [92], [142, 98, 118, 89, 89], [120, 94, 89, 99], [103, 103, 143, 104, 96, 105, 105], 
  [139, 139, 139], [128, 128, 129], [88, 144, 99], [145, 92, 92, 91], [146, 89, 89, 99], [103, 147, 104, 96, 96, 96, 105, 148, 100], [149, 149, 92, 92, 128, 128], 
  [150, 128, 102, 128, 128, 121], [128, 128, 128], [151], [103, 103, 143, 96, 139, 139], [152, 141, 139, 124], [153], [149, 142, 92], [102, 113], [103, 104], 
  [], [], [96, 104, 96, 96, 132], [], [96], [], [154], [97], [], [], [], [155], [139, 139], [], [92], [96, 96, 96], [94, 94, 94], [92, 156], [92], [96, 136, 96, 157], 
  [136, 96], [92, 92], [149, 92], [151], [158, 139], [], [159], [136], [92], [161, 160], [103, 96], [], [162], [96], [], [], [], [], [], [], [], [], [], 
  [], [], [], [], [], [], [], [], []]
def gUnf : List Bool := [false, false, false, false, false, false, false, false, false, false, false, false, false, false, false, false, false, false, false, false, false, false, 
  false, false, false, false, false, false, false, false, false, false, false, false, false, false, false, false, false, false, false, false, false, false, 
  false, false, false, false, false, false, false, false, false, false, false, false, false, false, false, false, false, false, false, false, false, false, 
  false, false, false, false, false, false, false, false, false, false, false, false, false, false, false, false, true, false, false, false, false, false, 
  false, false, false, false, false, false, false, false, false, false, false, false, false, false, false, false, false, false, false, false, false, false, 
  false, false, false, false, false, false, false, false, false, false, false, false, false, false, false, false, false, false, false, false, false, false, 
  false, false, false, false, false, false, false, false, false, false, false, false, false, false, false, false, false, false, false, false, false, false, 
  false, false, false, false, false, false, false, false, true, false, false, false, false, false, false, false, false, false, false, false, false, false, 
  false, false, false, false]
def gGlo : List (List Nat) := [[], [], [], [], [], [], [], [], [], [], [], [], [], [], [], [], [], [], [], [], [], [], [], [], [], [], [], [], [], [], [], [], [], [], [], [], [], [], 
  [], [], [], [], [], [], [], [], [], [], [], [], [], [], [], [], [], [], [], [], [], [], [], [], [], [], [], [], [], [], [], [], [], [], [], [], [], [], 
  [], [], [], [], [], [], [], [], [], [], [], [], [], [], [], [], [], [], [], [], [], [], [], [], [], [], [], [], [], [], [], [], [], [], [], [], [], [], 
  [], [], [], [], [], [], [], [], [], [], [], [], [], [], [], [], [], [], [], [], [0, 1], [], [], [], [], [], [], [], [], [], [], [], [], [], [], [], [], 
  [], [], [], [], [], [], [], [], [], [], [], [], [], [], [], [], [], [], [], [], [], [], [], [], [], [], [], [], []]
noncomputable def gInp : List (Option String) := [some Try.f0.name, some Try.f1.name, none, none, none, none, none, none, none, none, none, none, none, none, none, none, none, none, none, none, none, none, 
  none, none, none, none, none, none, none, none, none, none, none, none, none, none, none, none, none, none, none, none, none, none, none, none, none, none, 
  none, none, none, none, none, none, none, none, none, none, none, none, none, none, none, none, none, none, none, none, none, none, none, none, none, none, 
  none, none, none, none, none, none, none, none, none, none, none, none, none, none, none, none, none, none, none, none, none, none, none, none, none, none, 
  none, none, none, none, none, none, none, none, none, none, none, none, none, none, none, none, none, none, none, none, none, none, none, none, none, none, 
  none, none, none, none, none, none, none, none, none, none, none, none, none, none, none, none, none, none, none, none, none, none, none, none, none, none, 
  none, none, none, none, none, none, none, none, none, none, none, some Try.f163.name, some Try.f164.name, some Try.f165.name, some Try.f166.name, some Try.f167.name, 
  some Try.f168.name, some Try.f169.name, some Try.f170.name, some Try.f171.name, some Try.f172.name, some Try.f173.name, some Try.f174.name, some Try.f175.name, 
  some Try.f176.name, some Try.f177.name, some Try.f178.name, some Try.f179.name]
def gRds : List (Option String) := [none, none, none, none, none, none, none, none, none, none, none, none, none, none, none, none, none, none, none, none, none, none, none, none, none, none, 
  none, none, none, none, none, none, none, none, none, none, none, none, none, none, none, none, none, none, none, none, none, none, none, none, none, none, 
  none, none, none, none, none, none, none, none, none, none, none, none, none, none, none, none, none, none, none, none, none, none, none, none, none, none, 
  none, none, none, none, none, none, none, none, none, none, none, none, none, none, none, none, none, none, none, none, none, none, none, none, none, none, 
  none, none, none, none, none, none, none, none, none, none, none, none, none, none, none, none, none, none, none, none, none, none, none, none, none, none, 
  none, none, none, none, none, none, none, none, none, none, none, none, none, none, none, none, none, none, none, none, none, none, none, none, none, none, 
  none, none, none, none, none, none, none, none, none, none, none, none, none, none, none, none, none, none, none, none, none, none, none, none]
theorem gLeads_eq : Try.prog.funcs.toList.map Try.prog.leadsTo = gLeads := by kernel_rfl
theorem gUnf_eq : Try.prog.funcs.toList.map (fun fn => match fn.body with | some c => c.unfollowed | none => entryCalls fn) = gUnf := by kernel_rfl
theorem gGlo_eq : Try.prog.funcs.toList.map (fun fn => (fn.body).elim [] Code.globalsNamed) = gGlo := by kernel_rfl
theorem gInp_eq : Try.prog.funcs.toList.map (fun fn => if fn.ours || fn.body.isNone || fn.name == "runtime.NumGoroutine" then some fn.name else none) = gInp := by kernel_rfl
theorem gRds_eq : Try.prog.funcs.toList.map (fun fn => if fn.body.isNone then entryReads.lookup fn.name else none) = gRds := by kernel_rfl

theorem at_list {a b : Type} (xs : Array a) (h : a → b) (d : b) (g : Nat) : (xs[g]?).elim d h = (xs.toList.map h).getD g d := by
  rw [← Array.getElem?_toList, List.getD_eq_getElem?_getD, List.getElem?_map]
  cases xs.toList[g]? <;> rfl

def closT (L : List (List Nat)) : Nat → List Nat → List Nat → List Nat
  | 0, _, seen => seen.reverse
  | _, [], seen => seen.reverse
  | n + 1, f :: todo, seen => if seen.contains f then closT L n todo seen else closT L n (L.getD f [] ++ todo) (f :: seen)
def fuelT (L : List (List Nat)) : Nat := 1 + (L.map fun l => l.length + 1).sum
section
variable {P : Program} {L : List (List Nat)}
theorem via_eq (hL : P.funcs.toList.map P.leadsTo = L) (n : Nat) : ∀ todo seen, P.closureVia n todo seen = closT L n todo seen := by
  induction n with
  | zero => intro todo seen; simp [Program.closureVia, closT]
  | succ n ih =>
    intro todo seen
    cases todo with
    | nil => simp [Program.closureVia, closT]
    | cons f todo => simp only [Program.closureVia, closT, ih, at_list, hL]
theorem closure_eq0 (hL : P.funcs.toList.map P.leadsTo = L) (f : Nat) : P.closure f = closT L (fuelT L) [f] [] := by
  have e : (1 + (P.funcs.toList.map fun fn => (P.leadsTo fn).length + 1).sum) = fuelT L := by
    unfold fuelT; rw [← hL, List.map_map]; rfl
  unfold Program.closure
  rw [via_eq hL, ← e]
theorem inPlace_eq0 (hL : P.funcs.toList.map P.leadsTo = L) {I : List (Option String)} (hI : P.funcs.toList.map (fun fn => if fn.ours || fn.body.isNone || fn.name == "runtime.NumGoroutine" then some fn.name else none) = I) (f : Nat) : P.inPlace f = (closT L (fuelT L) [f] []).filterMap fun g => I.getD g none := by
  unfold Program.inPlace
  rw [closure_eq0 hL]
  congr 1; funext g
  rw [← hI, ← at_list]
  cases P.funcs[g]? <;> rfl
theorem unfollowed_eq0 (hL : P.funcs.toList.map P.leadsTo = L) {U : List Bool} (hU : P.funcs.toList.map (fun fn => match fn.body with | some c => c.unfollowed | none => entryCalls fn) = U) (f : Nat) : P.unfollowed f = (closT L (fuelT L) [f] []).any fun g => U.getD g false := by
  unfold Program.unfollowed
  rw [closure_eq0 hL]
  congr 1; funext g
  rw [← hU, ← at_list]
  cases P.funcs[g]? <;> rfl
theorem recurses_eq0 (hL : P.funcs.toList.map P.leadsTo = L) {U : List Bool} (hU : P.funcs.toList.map (fun fn => match fn.body with | some c => c.unfollowed | none => entryCalls fn) = U) (f : Nat) : P.recurses f = ((closT L (fuelT L) [f] []).any (fun g => U.getD g false) || (closT L (fuelT L) [f] []).any fun g => (L.getD g []).any fun h => (closT L (fuelT L) [h] []).contains g) := by
  unfold Program.recurses
  rw [unfollowed_eq0 hL hU, closure_eq0 hL]
  congr 2; funext g
  rw [at_list, hL]
  congr 1; funext h
  rw [closure_eq0 hL]
theorem varsNamed_eq0 (hL : P.funcs.toList.map P.leadsTo = L) {G : List (List Nat)} {R : List (Option String)} (hG : P.funcs.toList.map (fun fn => (fn.body).elim [] Code.globalsNamed) = G) (hR : P.funcs.toList.map (fun fn => if fn.body.isNone then entryReads.lookup fn.name else none) = R) (f : Nat) :
    P.varsNamed f = ((((closT L (fuelT L) [f] []).flatMap fun g => G.getD g []).eraseDups).filterMap (fun g => (P.globals[g]?).map (·.name)) ++ (closT L (fuelT L) [f] []).filterMap fun g => R.getD g none).eraseDups := by
  unfold Program.varsNamed
  rw [closure_eq0 hL]
  congr 2
  · congr 2; congr 1; funext g
    rw [← hG, ← at_list]
    cases P.funcs[g]? <;> rfl
  · congr 1; funext g
    rw [← hR, ← at_list]
    cases P.funcs[g]? <;> rfl
end
theorem inPlace_eq (f : Nat) : Try.prog.inPlace f = (closT gLeads (fuelT gLeads) [f] []).filterMap fun g => gInp.getD g none := inPlace_eq0 gLeads_eq gInp_eq f
theorem unfollowed_eq (f : Nat) : Try.prog.unfollowed f = (closT gLeads (fuelT gLeads) [f] []).any fun g => gUnf.getD g false := unfollowed_eq0 gLeads_eq gUnf_eq f
theorem recurses_eq (f : Nat) : Try.prog.recurses f = ((closT gLeads (fuelT gLeads) [f] []).any (fun g => gUnf.getD g false) || (closT gLeads (fuelT gLeads) [f] []).any fun g => (gLeads.getD g []).any fun h => (closT gLeads (fuelT gLeads) [h] []).contains g) := recurses_eq0 gLeads_eq gUnf_eq f
theorem varsNamed_eq (f : Nat) : Try.prog.varsNamed f = ((((closT gLeads (fuelT gLeads) [f] []).flatMap fun g => gGlo.getD g []).eraseDups).filterMap (fun g => (Try.prog.globals[g]?).map (·.name)) ++ (closT gLeads (fuelT gLeads) [f] []).filterMap fun g => gRds.getD g none).eraseDups := varsNamed_eq0 gLeads_eq gGlo_eq gRds_eq f
/-- The same walk with the set of what is seen held in one number: cheap to reckon in the kernel. -/
def closB (L : List (List Nat)) : Nat → List Nat → Nat → List Nat → List Nat
  | 0, _, _, seen => seen.reverse
  | _, [], _, seen => seen.reverse
  | n + 1, f :: todo, m, seen => cond (m.testBit f) (closB L n todo m seen) (closB L n (L.getD f [] ++ todo) (m ||| 1 <<< f) (f :: seen))
theorem closB_eq (L : List (List Nat)) (n : Nat) : ∀ todo m seen, (∀ x, m.testBit x = seen.contains x) → closT L n todo seen = closB L n todo m seen := by
  induction n with
  | zero => intro todo m seen _; simp [closT, closB]
  | succ n ih =>
    intro todo m seen h
    cases todo with
    | nil => simp [closT, closB]
    | cons f todo =>
      simp only [closT, closB]
      rw [h f]
      cases hc : seen.contains f with
      | true => simp only [if_true, cond_true]; exact ih _ _ _ h
      | false =>
        simp only [cond_false]
        rw [if_neg (by simp)]
        refine ih _ _ _ fun x => ?_
        rw [Nat.testBit_or, h x, Nat.shiftLeft_eq, Nat.one_mul, Nat.testBit_two_pow, List.contains_cons, Bool.or_comm]
        congr 1
        by_cases e : f = x
        · subst e; simp
        · simp [e, Ne.symm e]
theorem clos_mk {L : List (List Nat)} {f : Nat} {r : List Nat} (h : closB L (fuelT L) [f] 0 [] = r) : closT L (fuelT L) [f] [] = r := by
  rw [closB_eq L _ _ 0 _ (fun x => by simp), h]
theorem strip_cut (ls : List String) (h : ls.all (fun o => "cut".toList != o.toList) = true) (r : List (List Char)) : stripLifts ls ("cut".toList :: r) = ([], "cut".toList :: r) := by
  induction ls with
  | nil => rfl
  | cons o os ih =>
    rw [List.all_cons, Bool.and_eq_true] at h
    unfold stripLifts
    rw [if_neg (by simpa using h.1)]
    exact ih h.2
theorem make_cut {P : Program} {r : List (List Char)} (h : behindMainWord (wordsSigns P.initOrder.toList) = "cut".toList :: r) : P.make = some .cut := by
  unfold Program.make
  generalize P.headLifts = H
  rw [h]
  rfl
theorem lifts_cut {P : Program} {r : List (List Char)} (h : behindMainWord (wordsSigns P.initOrder.toList) = "cut".toList :: r) : P.liftsFinal = false := by
  unfold Program.liftsFinal Program.headLifts
  rw [h, strip_cut _ (by kernel_rfl)]
  rfl
theorem may_cut {P : Program} {r : List (List Char)} (h : behindMainWord (wordsSigns P.initOrder.toList) = "cut".toList :: r) (h1 : P.laysLater = false) (h2 : P.bearsReflect = false) (h3 : P.doorFits [] = true) : P.mayEnter = true := by
  unfold Program.mayEnter
  rw [h]
  dsimp only
  rw [strip_cut _ (by kernel_rfl), h1, h2, h3]
  rfl
theorem lays : Try.prog.laysLater = false := by kernel_rfl
theorem bears : Try.prog.bearsReflect = false := by kernel_rfl
theorem door : Try.prog.doorFits [] = true := by kernel_rfl
set_option maxRecDepth 100000 in
theorem order_ : Try.prog.initOrder.toList = ([104, 97, 114, 110, 101, 115, 115, 32, 57, 55, 102, 54, 57, 98, 57, 100, 102, 97, 99, 102, 53, 99, 51, 97, 101, 101, 102, 101, 56, 56, 48, 53, 52, 50, 56, 49, 52, 48, 101, 55, 98, 56, 48, 51, 52, 100, 55, 50, 56, 102, 97, 54, 49, 50, 52, 57, 55, 53, 53, 49, 57, 52, 97, 97, 56, 102, 100, 50, 48, 97, 50, 56, 32, 99, 117, 116, 32, 97, 116, 32, 108, 111, 111, 112, 46, 101, 120, 97, 109, 112, 108, 101, 47, 103, 48, 49, 48, 50, 53, 47, 108, 97, 119, 115, 46, 70, 110, 69, 120, 97, 99, 116, 67, 111, 108, 117, 109, 110, 67, 32, 108, 111, 111, 112, 46, 101, 120, 97, 109, 112, 108, 101, 47, 103, 48, 49, 48, 50, 53, 47, 108, 97, 119, 115, 46, 70, 110, 69, 120, 97, 99, 116, 67, 111, 108, 117, 109, 110, 68, 32, 108, 111, 111, 112, 46, 101, 120, 97, 109, 112, 108, 101, 47, 103, 48, 49, 48, 50, 53, 47, 108, 97, 119, 115, 46, 70, 110, 69, 120, 97, 99, 116, 67, 111, 108, 117, 109, 110, 77, 32, 108, 111, 111, 112, 46, 101, 120, 97, 109, 112, 108, 101, 47, 103, 48, 49, 48, 50, 53, 47, 108, 97, 119, 115, 46, 70, 110, 69, 120, 97, 99, 116, 67, 111, 108, 117, 109, 110, 78, 32, 108, 111, 111, 112, 46, 101, 120, 97, 109, 112, 108, 101, 47, 103, 48, 49, 48, 50, 53, 47, 108, 97, 119, 115, 46, 70, 110, 69, 120, 97, 99, 116, 65, 115, 115, 117, 114, 97, 110, 99, 101, 78, 117, 109, 98, 101, 114, 32, 108, 111, 111, 112, 46, 101, 120, 97, 109, 112, 108, 101, 47, 103, 48, 49, 48, 50, 53, 47, 108, 97, 119, 115, 46, 70, 110, 69, 120, 97, 99, 116, 65, 109, 111, 117, 110, 116, 70, 111, 114, 32, 108, 111, 111, 112, 46, 101, 120, 97, 109, 112, 108, 101, 47, 103, 48, 49, 48, 50, 53, 47, 108, 97, 119, 115, 46, 70, 110, 69, 120, 97, 99, 116, 84, 101, 114, 109, 65, 110, 110, 117, 105, 116, 121, 32, 108, 111, 111, 112, 46, 101, 120, 97, 109, 112, 108, 101, 47, 103, 48, 49, 48, 50, 53, 47, 108, 97, 119, 115, 46, 70, 110, 69, 120, 97, 99, 116, 76, 97, 116, 101, 65, 110, 110, 117, 105, 116, 121, 32, 108, 111, 111, 112, 46, 101, 120, 97, 109, 112, 108, 101, 47, 103, 48, 49, 48, 50, 53, 47, 108, 97, 119, 115, 46, 70, 110, 69, 120, 97, 99, 116, 76, 105, 102, 101, 65, 110, 110, 117, 105, 116, 121, 32, 108, 111, 111, 112, 46, 101, 120, 97, 109, 112, 108, 101, 47, 103, 48, 49, 48, 50, 53, 47, 108, 97, 119, 115, 46, 70, 110, 69, 120, 97, 99, 116, 65, 110, 110, 117, 105, 116, 121, 80, 114, 105, 99, 101, 115, 32, 108, 111, 111, 112, 46, 101, 120, 97, 109, 112, 108, 101, 47, 103, 48, 49, 48, 50, 53, 47, 108, 97, 119, 115, 46, 70, 110, 69, 120, 97, 99, 116, 83, 117, 114, 101, 65, 110, 110, 117, 105, 116, 121, 32, 108, 111, 111, 112, 46, 101, 120, 97, 109, 112, 108, 101, 47, 103, 48, 49, 48, 50, 53, 47, 108, 97, 119, 115, 46, 70, 110, 69, 120, 97, 99, 116, 83, 117, 109, 70, 111, 114, 32, 108, 111, 111, 112, 46, 101, 120, 97, 109, 112, 108, 101, 47, 103, 48, 49, 48, 50, 53, 47, 108, 97, 119, 115, 46, 70, 110, 69, 120, 97, 99, 116, 65, 115, 115, 117, 114, 97, 110, 99, 101, 80, 114, 105, 99, 101, 32, 108, 111, 111, 112, 46, 101, 120, 97, 109, 112, 108, 101, 47, 103, 48, 49, 48, 50, 53, 47, 108, 97, 119, 115, 46, 70, 110, 69, 120, 97, 99, 116, 74, 111, 105, 110, 116, 65, 110, 110, 117, 105, 116, 121, 32, 108, 111, 111, 112, 46, 101, 120, 97, 109, 112, 108, 101, 47, 103, 48, 49, 48, 50, 53, 47, 108, 97, 119, 115, 46, 70, 110, 69, 120, 97, 99, 116, 87, 105, 100, 111, 119, 65, 110, 110, 117, 105, 116, 121, 32, 108, 111, 111, 112, 46, 101, 120, 97, 109, 112, 108, 101, 47, 103, 48, 49, 48, 50, 53, 47, 108, 97, 119, 115, 46, 70, 110, 69, 120, 97, 99, 116, 84, 101, 114, 109, 80, 97, 114, 116, 32, 108, 111, 111, 112, 46, 101, 120, 97, 109, 112, 108, 101, 47, 103, 48, 49, 48, 50, 53, 47, 108, 97, 119, 115, 46, 70, 110, 69, 120, 97, 99, 116, 78, 97, 116, 117, 114, 97, 108, 80, 114, 101, 109, 105, 117, 109, 115, 32, 108, 111, 111, 112, 46, 101, 120, 97, 109, 112, 108, 101, 47, 103, 48, 49, 48, 50, 53, 47, 108, 97, 119, 115, 46, 70, 110, 69, 120, 97, 99, 116, 76, 101, 118, 101, 108, 80, 114, 101, 109, 105, 117, 109, 32, 108, 111, 111, 112, 46, 101, 120, 97, 109, 112, 108, 101, 47, 103, 48, 49, 48, 50, 53, 47, 108, 97, 119, 115, 46, 70, 110, 69, 120, 97, 99, 116, 76, 97, 115, 116, 65, 110, 110, 117, 105, 116, 121, 32, 108, 111, 111, 112, 46, 101, 120, 97, 109, 112, 108, 101, 47, 103, 48, 49, 48, 50, 53, 47, 108, 97, 119, 115, 46, 70, 110, 69, 120, 97, 99, 116, 83, 105, 99, 107, 86, 97, 108, 117, 101, 32, 108, 111, 111, 112, 46, 101, 120, 97, 109, 112, 108, 101, 47, 103, 48, 49, 48, 50, 53, 47, 108, 97, 119, 115, 46, 70, 110, 69, 120, 97, 99, 116, 83, 105, 99, 107, 80, 114, 101, 109, 105, 117, 109, 32, 108, 111, 111, 112, 46, 101, 120, 97, 109, 112, 108, 101, 47, 103, 48, 49, 48, 50, 53, 47, 108, 97, 119, 115, 46, 70, 110, 69, 120, 97, 99, 116, 87, 105, 100, 111, 119, 89, 101, 97, 114, 115].map Char.ofNat) := by
  have e : Try.prog.initOrder = String.ofList ([104, 97, 114, 110, 101, 115, 115, 32, 57, 55, 102, 54, 57, 98, 57, 100, 102, 97, 99, 102, 53, 99, 51, 97, 101, 101, 102, 101, 56, 56, 48, 53, 52, 50, 56, 49, 52, 48, 101, 55, 98, 56, 48, 51, 52, 100, 55, 50, 56, 102, 97, 54, 49, 50, 52, 57, 55, 53, 53, 49, 57, 52, 97, 97, 56, 102, 100, 50, 48, 97, 50, 56, 32, 99, 117, 116, 32, 97, 116, 32, 108, 111, 111, 112, 46, 101, 120, 97, 109, 112, 108, 101, 47, 103, 48, 49, 48, 50, 53, 47, 108, 97, 119, 115, 46, 70, 110, 69, 120, 97, 99, 116, 67, 111, 108, 117, 109, 110, 67, 32, 108, 111, 111, 112, 46, 101, 120, 97, 109, 112, 108, 101, 47, 103, 48, 49, 48, 50, 53, 47, 108, 97, 119, 115, 46, 70, 110, 69, 120, 97, 99, 116, 67, 111, 108, 117, 109, 110, 68, 32, 108, 111, 111, 112, 46, 101, 120, 97, 109, 112, 108, 101, 47, 103, 48, 49, 48, 50, 53, 47, 108, 97, 119, 115, 46, 70, 110, 69, 120, 97, 99, 116, 67, 111, 108, 117, 109, 110, 77, 32, 108, 111, 111, 112, 46, 101, 120, 97, 109, 112, 108, 101, 47, 103, 48, 49, 48, 50, 53, 47, 108, 97, 119, 115, 46, 70, 110, 69, 120, 97, 99, 116, 67, 111, 108, 117, 109, 110, 78, 32, 108, 111, 111, 112, 46, 101, 120, 97, 109, 112, 108, 101, 47, 103, 48, 49, 48, 50, 53, 47, 108, 97, 119, 115, 46, 70, 110, 69, 120, 97, 99, 116, 65, 115, 115, 117, 114, 97, 110, 99, 101, 78, 117, 109, 98, 101, 114, 32, 108, 111, 111, 112, 46, 101, 120, 97, 109, 112, 108, 101, 47, 103, 48, 49, 48, 50, 53, 47, 108, 97, 119, 115, 46, 70, 110, 69, 120, 97, 99, 116, 65, 109, 111, 117, 110, 116, 70, 111, 114, 32, 108, 111, 111, 112, 46, 101, 120, 97, 109, 112, 108, 101, 47, 103, 48, 49, 48, 50, 53, 47, 108, 97, 119, 115, 46, 70, 110, 69, 120, 97, 99, 116, 84, 101, 114, 109, 65, 110, 110, 117, 105, 116, 121, 32, 108, 111, 111, 112, 46, 101, 120, 97, 109, 112, 108, 101, 47, 103, 48, 49, 48, 50, 53, 47, 108, 97, 119, 115, 46, 70, 110, 69, 120, 97, 99, 116, 76, 97, 116, 101, 65, 110, 110, 117, 105, 116, 121, 32, 108, 111, 111, 112, 46, 101, 120, 97, 109, 112, 108, 101, 47, 103, 48, 49, 48, 50, 53, 47, 108, 97, 119, 115, 46, 70, 110, 69, 120, 97, 99, 116, 76, 105, 102, 101, 65, 110, 110, 117, 105, 116, 121, 32, 108, 111, 111, 112, 46, 101, 120, 97, 109, 112, 108, 101, 47, 103, 48, 49, 48, 50, 53, 47, 108, 97, 119, 115, 46, 70, 110, 69, 120, 97, 99, 116, 65, 110, 110, 117, 105, 116, 121, 80, 114, 105, 99, 101, 115, 32, 108, 111, 111, 112, 46, 101, 120, 97, 109, 112, 108, 101, 47, 103, 48, 49, 48, 50, 53, 47, 108, 97, 119, 115, 46, 70, 110, 69, 120, 97, 99, 116, 83, 117, 114, 101, 65, 110, 110, 117, 105, 116, 121, 32, 108, 111, 111, 112, 46, 101, 120, 97, 109, 112, 108, 101, 47, 103, 48, 49, 48, 50, 53, 47, 108, 97, 119, 115, 46, 70, 110, 69, 120, 97, 99, 116, 83, 117, 109, 70, 111, 114, 32, 108, 111, 111, 112, 46, 101, 120, 97, 109, 112, 108, 101, 47, 103, 48, 49, 48, 50, 53, 47, 108, 97, 119, 115, 46, 70, 110, 69, 120, 97, 99, 116, 65, 115, 115, 117, 114, 97, 110, 99, 101, 80, 114, 105, 99, 101, 32, 108, 111, 111, 112, 46, 101, 120, 97, 109, 112, 108, 101, 47, 103, 48, 49, 48, 50, 53, 47, 108, 97, 119, 115, 46, 70, 110, 69, 120, 97, 99, 116, 74, 111, 105, 110, 116, 65, 110, 110, 117, 105, 116, 121, 32, 108, 111, 111, 112, 46, 101, 120, 97, 109, 112, 108, 101, 47, 103, 48, 49, 48, 50, 53, 47, 108, 97, 119, 115, 46, 70, 110, 69, 120, 97, 99, 116, 87, 105, 100, 111, 119, 65, 110, 110, 117, 105, 116, 121, 32, 108, 111, 111, 112, 46, 101, 120, 97, 109, 112, 108, 101, 47, 103, 48, 49, 48, 50, 53, 47, 108, 97, 119, 115, 46, 70, 110, 69, 120, 97, 99, 116, 84, 101, 114, 109, 80, 97, 114, 116, 32, 108, 111, 111, 112, 46, 101, 120, 97, 109, 112, 108, 101, 47, 103, 48, 49, 48, 50, 53, 47, 108, 97, 119, 115, 46, 70, 110, 69, 120, 97, 99, 116, 78, 97, 116, 117, 114, 97, 108, 80, 114, 101, 109, 105, 117, 109, 115, 32, 108, 111, 111, 112, 46, 101, 120, 97, 109, 112, 108, 101, 47, 103, 48, 49, 48, 50, 53, 47, 108, 97, 119, 115, 46, 70, 110, 69, 120, 97, 99, 116, 76, 101, 118, 101, 108, 80, 114, 101, 109, 105, 117, 109, 32, 108, 111, 111, 112, 46, 101, 120, 97, 109, 112, 108, 101, 47, 103, 48, 49, 48, 50, 53, 47, 108, 97, 119, 115, 46, 70, 110, 69, 120, 97, 99, 116, 76, 97, 115, 116, 65, 110, 110, 117, 105, 116, 121, 32, 108, 111, 111, 112, 46, 101, 120, 97, 109, 112, 108, 101, 47, 103, 48, 49, 48, 50, 53, 47, 108, 97, 119, 115, 46, 70, 110, 69, 120, 97, 99, 116, 83, 105, 99, 107, 86, 97, 108, 117, 101, 32, 108, 111, 111, 112, 46, 101, 120, 97, 109, 112, 108, 101, 47, 103, 48, 49, 48, 50, 53, 47, 108, 97, 119, 115, 46, 70, 110, 69, 120, 97, 99, 116, 83, 105, 99, 107, 80, 114, 101, 109, 105, 117, 109, 32, 108, 111, 111, 112, 46, 101, 120, 97, 109, 112, 108, 101, 47, 103, 48, 49, 48, 50, 53, 47, 108, 97, 119, 115, 46, 70, 110, 69, 120, 97, 99, 116, 87, 105, 100, 111, 119, 89, 101, 97, 114, 115].map Char.ofNat) := by kernel_rfl
  rw [e]; exact String.toList_ofList
set_option maxRecDepth 100000 in
theorem words : behindMainWord (wordsSigns Try.prog.initOrder.toList) = "cut".toList :: [([97, 116].map Char.ofNat), ([108, 111, 111, 112, 46, 101, 120, 97, 109, 112, 108, 101, 47, 103, 48, 49, 48, 50, 53, 47, 108, 97, 119, 115, 46, 70, 110, 69, 120, 97, 99, 116, 67, 111, 108, 117, 109, 110, 67].map Char.ofNat), ([108, 111, 111, 112, 46, 101, 120, 97, 109, 112, 108, 101, 47, 103, 48, 49, 48, 50, 53, 47, 108, 97, 119, 115, 46, 70, 110, 69, 120, 97, 99, 116, 67, 111, 108, 117, 109, 110, 68].map Char.ofNat), ([108, 111, 111, 112, 46, 101, 120, 97, 109, 112, 108, 101, 47, 103, 48, 49, 48, 50, 53, 47, 108, 97, 119, 115, 46, 70, 110, 69, 120, 97, 99, 116, 67, 111, 108, 117, 109, 110, 77].map Char.ofNat), ([108, 111, 111, 112, 46, 101, 120, 97, 109, 112, 108, 101, 47, 103, 48, 49, 48, 50, 53, 47, 108, 97, 119, 115, 46, 70, 110, 69, 120, 97, 99, 116, 67, 111, 108, 117, 109, 110, 78].map Char.ofNat), ([108, 111, 111, 112, 46, 101, 120, 97, 109, 112, 108, 101, 47, 103, 48, 49, 48, 50, 53, 47, 108, 97, 119, 115, 46, 70, 110, 69, 120, 97, 99, 116, 65, 115, 115, 117, 114, 97, 110, 99, 101, 78, 117, 109, 98, 101, 114].map Char.ofNat), ([108, 111, 111, 112, 46, 101, 120, 97, 109, 112, 108, 101, 47, 103, 48, 49, 48, 50, 53, 47, 108, 97, 119, 115, 46, 70, 110, 69, 120, 97, 99, 116, 65, 109, 111, 117, 110, 116, 70, 111, 114].map Char.ofNat), ([108, 111, 111, 112, 46, 101, 120, 97, 109, 112, 108, 101, 47, 103, 48, 49, 48, 50, 53, 47, 108, 97, 119, 115, 46, 70, 110, 69, 120, 97, 99, 116, 84, 101, 114, 109, 65, 110, 110, 117, 105, 116, 121].map Char.ofNat), ([108, 111, 111, 112, 46, 101, 120, 97, 109, 112, 108, 101, 47, 103, 48, 49, 48, 50, 53, 47, 108, 97, 119, 115, 46, 70, 110, 69, 120, 97, 99, 116, 76, 97, 116, 101, 65, 110, 110, 117, 105, 116, 121].map Char.ofNat), ([108, 111, 111, 112, 46, 101, 120, 97, 109, 112, 108, 101, 47, 103, 48, 49, 48, 50, 53, 47, 108, 97, 119, 115, 46, 70, 110, 69, 120, 97, 99, 116, 76, 105, 102, 101, 65, 110, 110, 117, 105, 116, 121].map Char.ofNat), ([108, 111, 111, 112, 46, 101, 120, 97, 109, 112, 108, 101, 47, 103, 48, 49, 48, 50, 53, 47, 108, 97, 119, 115, 46, 70, 110, 69, 120, 97, 99, 116, 65, 110, 110, 117, 105, 116, 121, 80, 114, 105, 99, 101, 115].map Char.ofNat), ([108, 111, 111, 112, 46, 101, 120, 97, 109, 112, 108, 101, 47, 103, 48, 49, 48, 50, 53, 47, 108, 97, 119, 115, 46, 70, 110, 69, 120, 97, 99, 116, 83, 117, 114, 101, 65, 110, 110, 117, 105, 116, 121].map Char.ofNat), ([108, 111, 111, 112, 46, 101, 120, 97, 109, 112, 108, 101, 47, 103, 48, 49, 48, 50, 53, 47, 108, 97, 119, 115, 46, 70, 110, 69, 120, 97, 99, 116, 83, 117, 109, 70, 111, 114].map Char.ofNat), ([108, 111, 111, 112, 46, 101, 120, 97, 109, 112, 108, 101, 47, 103, 48, 49, 48, 50, 53, 47, 108, 97, 119, 115, 46, 70, 110, 69, 120, 97, 99, 116, 65, 115, 115, 117, 114, 97, 110, 99, 101, 80, 114, 105, 99, 101].map Char.ofNat), ([108, 111, 111, 112, 46, 101, 120, 97, 109, 112, 108, 101, 47, 103, 48, 49, 48, 50, 53, 47, 108, 97, 119, 115, 46, 70, 110, 69, 120, 97, 99, 116, 74, 111, 105, 110, 116, 65, 110, 110, 117, 105, 116, 121].map Char.ofNat), ([108, 111, 111, 112, 46, 101, 120, 97, 109, 112, 108, 101, 47, 103, 48, 49, 48, 50, 53, 47, 108, 97, 119, 115, 46, 70, 110, 69, 120, 97, 99, 116, 87, 105, 100, 111, 119, 65, 110, 110, 117, 105, 116, 121].map Char.ofNat), ([108, 111, 111, 112, 46, 101, 120, 97, 109, 112, 108, 101, 47, 103, 48, 49, 48, 50, 53, 47, 108, 97, 119, 115, 46, 70, 110, 69, 120, 97, 99, 116, 84, 101, 114, 109, 80, 97, 114, 116].map Char.ofNat), ([108, 111, 111, 112, 46, 101, 120, 97, 109, 112, 108, 101, 47, 103, 48, 49, 48, 50, 53, 47, 108, 97, 119, 115, 46, 70, 110, 69, 120, 97, 99, 116, 78, 97, 116, 117, 114, 97, 108, 80, 114, 101, 109, 105, 117, 109, 115].map Char.ofNat), ([108, 111, 111, 112, 46, 101, 120, 97, 109, 112, 108, 101, 47, 103, 48, 49, 48, 50, 53, 47, 108, 97, 119, 115, 46, 70, 110, 69, 120, 97, 99, 116, 76, 101, 118, 101, 108, 80, 114, 101, 109, 105, 117, 109].map Char.ofNat), ([108, 111, 111, 112, 46, 101, 120, 97, 109, 112, 108, 101, 47, 103, 48, 49, 48, 50, 53, 47, 108, 97, 119, 115, 46, 70, 110, 69, 120, 97, 99, 116, 76, 97, 115, 116, 65, 110, 110, 117, 105, 116, 121].map Char.ofNat), ([108, 111, 111, 112, 46, 101, 120, 97, 109, 112, 108, 101, 47, 103, 48, 49, 48, 50, 53, 47, 108, 97, 119, 115, 46, 70, 110, 69, 120, 97, 99, 116, 83, 105, 99, 107, 86, 97, 108, 117, 101].map Char.ofNat), ([108, 111, 111, 112, 46, 101, 120, 97, 109, 112, 108, 101, 47, 103, 48, 49, 48, 50, 53, 47, 108, 97, 119, 115, 46, 70, 110, 69, 120, 97, 99, 116, 83, 105, 99, 107, 80, 114, 101, 109, 105, 117, 109].map Char.ofNat), ([108, 111, 111, 112, 46, 101, 120, 97, 109, 112, 108, 101, 47, 103, 48, 49, 48, 50, 53, 47, 108, 97, 119, 115, 46, 70, 110, 69, 120, 97, 99, 116, 87, 105, 100, 111, 119, 89, 101, 97, 114, 115].map Char.ofNat)] := by
  rw [order_]; kernel_rfl
theorem make_eq : Try.prog.make = some .cut := make_cut words
theorem lifts_eq : Try.prog.liftsFinal = false := lifts_cut words
theorem may_eq : Try.prog.mayEnter = true := may_cut words lays bears door
theorem prog_eq : Try.pinned.checked.prog = Try.prog := rfl
theorem laid_eq : laidOutB Try.prog = true := by kernel_rfl
theorem rowed_eq : mapsRowed Try.prog = true := by kernel_rfl
theorem heard_eq : Try.prog.stopsHeard = true := by kernel_rfl
theorem stops_eq : (Try.prog.stops == []) = true := by kernel_rfl
theorem knobs_eq : (Try.prog.stopKnobs == []) = true := by kernel_rfl
theorem keys_eq : Try.prog.plainKeys = true := by kernel_rfl
theorem and_mk {a b : Bool} (ha : a = true) (hb : b = true) : (a && b) = true := by rw [ha, hb]; rfl
theorem walk_eq (L : List (List Nat)) (n : Nat) (h : Nat) : closT L n [h] [] = closB L n [h] 0 [] := closB_eq L n _ 0 _ (fun x => by simp)
set_option maxRecDepth 100000 in
/-- The closed fact of a row, from its parts: the program's own parts are proved above, the rest is small. -/
theorem facts_mk {f : FuncId} {fn : Func} {s : ChangeSpec} {c : OpenClaim} {cl : List Nat} (hcl : closB gLeads (fuelT gLeads) [f] 0 [] = cl)
    (h1 : c.wf (OpenSpec.ofChange s) = true) (h4 : fn.params.all (Try.prog.readableRec ·) = true) (h5 : namedTie Try.prog c.named s.vars = true) (h6 : (c.stops == []) = true) (h8 : (c.knobs == []) = true)
    (h10 : (c.inPlace == (cl.filterMap fun g => gInp.getD g none)) = true)
    (h11 : (c.unfollowed == (cl.any fun g => gUnf.getD g false)) = true)
    (h12 : (c.recurses == ((cl.any fun g => gUnf.getD g false) || cl.any fun g => (gLeads.getD g []).any fun h => (closB gLeads (fuelT gLeads) [h] 0 []).contains g)) = true)
    (h13 : (c.named == (((cl.flatMap fun g => gGlo.getD g []).eraseDups).filterMap (fun g => (Try.prog.globals[g]?).map (·.name)) ++ cl.filterMap fun g => gRds.getD g none).eraseDups) = true)
    (h14 : (c.maps == (fn.params.toList ++ s.plain.varTypes Try.prog).any (Try.prog.mapsRec ·)) = true)
    (h15 : (c.ifaces == (fn.params.toList ++ s.plain.varTypes Try.prog).any (Try.prog.ifacesRec ·)) = true)
    (h16 : (c.mapsOut == Try.prog.mapsAmong fn.resultTypes.toList) = true)
    (h17 : (c.loops == (fn.params.toList ++ s.plain.varTypes Try.prog).any (Try.prog.loopsFrom ·)) = true)
    (h17b : (c.wideKeys == (fn.params.toList ++ s.plain.varTypes Try.prog ++ fn.resultTypes.toList).any (Try.prog.wideKeysFrom ·)) = true)
    (h18 : s.vars.all (Try.prog.varReadable ·) = true) (h19 : fn.resultTypes.all (fun t => Try.prog.readableRec t && decide (t < Try.prog.types.size)) = true)
    (h20 : (c.ifacesOut == fn.resultTypes.toList.any (Try.prog.ifacesRec ·)) = true) (h21 : (c.loopsOut == fn.resultTypes.toList.any (Try.prog.loopsFrom ·)) = true)
    (h22 : (c.plainKeys == true) = true) (h23 : c.shortTexts.isNone = true) (h24 : (c.lifted == false) = true) (h25 : (some Make.cut == some c.make) = true)
    (h26 : (c.kinds == (if c.domain.isEmpty then [] else fn.params.toList.map fun t => match Try.prog.underlying t with | some (.int k) => some k | _ => none)) = true)
    (h27 : (c.pinned == c.pinnedBy) = true)
    (h28 : (c.veiled == (fn.params.toList ++ s.plain.varTypes Try.prog ++ fn.resultTypes.toList).any (Try.prog.veiledRec ·)) = true)
    (h29 : c.veiledFits Try.prog fn.params.toList (fn.params.toList ++ s.plain.varTypes Try.prog ++ fn.resultTypes.toList) = true) :
    joinedFacts Try.pinned.checked.prog f fn s c = true := by
  have hc := clos_mk hcl
  rw [prog_eq]
  unfold joinedFacts
  rw [inPlace_eq, unfollowed_eq, recurses_eq, varsNamed_eq, make_eq, lifts_eq, may_eq, laid_eq, rowed_eq, heard_eq, stops_eq, knobs_eq, keys_eq, hc]
  have e : (fun g => (gLeads.getD g []).any fun h => (closT gLeads (fuelT gLeads) [h] []).contains g) = (fun g => (gLeads.getD g []).any fun h => (closB gLeads (fuelT gLeads) [h] 0 []).contains g) := by
    funext g; simp only [walk_eq]
  rw [e, h1, h4, h5, h6, h8, h10, h11, h12, h13, h14, h15, h16, h17, h17b, h18, h19, h20, h21, h22, h23, h24, h25]
  exact and_mk (and_mk (and_mk (and_mk rfl h26) h27) h28) h29
end Go.Proofs.Ytegabpilmjicgaa
